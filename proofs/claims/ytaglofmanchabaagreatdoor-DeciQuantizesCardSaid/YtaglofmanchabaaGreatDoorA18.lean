/- Rules for steps and contracts of functions, each proved; no condition. -/
import Derived.Test.YtaglofmanchabaaGreatDoorA17
set_option linter.unusedVariables false
set_option linter.unusedSimpArgs false
set_option linter.unnecessarySimpa false
set_option maxHeartbeats 4000000
set_option maxRecDepth 100000
set_option synthInstance.maxHeartbeats 2000000
set_option synthInstance.maxSize 100000
namespace Go.V
theorem ocR_s (f dir : Int) (s : Bool) (n d : Nat) (e p : Int) : ocR f dir (.ex (sgnd s n) d e s p) = RS f s dir p ⟨n, d, e⟩ := by
  show RS f (if sgnd s n = 0 then s else decide (sgnd s n < 0)) dir p ⟨(sgnd s n).natAbs, d, e⟩ = _;rw [Zw]
  congr 1
  by_cases h : n = 0
  · rw [if_pos ((Z0 s n).2 h)]
  rw [if_neg (fun h1 => h ((Z0 s n).1 h1)), ZaO, decide_eq_true (show 0 < n by omega), Bool.and_true]
theorem ocR_n (f dir : Int) (n d : Nat) (e p : Int) : ocR f dir (.ex (n : Nat) d e false p) = RS f false dir p ⟨n, d, e⟩ := ocR_s f dir false n d e p
theorem ocR_0 (f dir : Int) (s : Bool) (e p : Int) (d : Nat) : ocR f dir (.ex 0 d e s p) = zro f s p := by
  show RS f (if (0 : Int) = 0 then s else _) dir p ⟨(0 : Int).natAbs, d, e⟩ = _;rw [if_pos rfl, ZcF rfl]
theorem RS_quo0 {f : Int} {neg : Bool} {dir prefer : Int} {a b : Nat} {e : Int} (hb : 0 < b) (hb2 : b < 10 ^ 40) :
    RS f neg dir prefer ⟨a, b, e⟩ = RS f neg dir prefer (nmOf (a * 10 ^ 80 / b) (e - 80) (decide (a * 10 ^ 80 % b ≠ 0))) := by
  rcases Nat.eq_zero_or_pos a with h | h
  · subst h
    rw [Nat.zero_mul, Nat.zero_div, Nat.zero_mod, ZcF rfl];exact (ZcF rfl).symm
  exact RS_quo h hb hb2
theorem quo_more {f : Int} {a b : Nat} (hb : 0 < b) (hb2 : b < 10 ^ 40) (h : decide (a * 10 ^ 80 % b ≠ 0) = true) : 10 ^ fP f ≤ a * 10 ^ 80 / b := by
  have hp := ZW f
  have ha : 0 < a := by
    rcases Nat.eq_zero_or_pos a with h0 | h0
    · subst h0; rw [Nat.zero_mul, Nat.zero_mod] at h; simp at h
    exact h0
  rw [Nat.le_div_iff_mul_le hb]
  calc 10 ^ fP f * b ≤ 10 ^ 40 * 10 ^ 40 := Nat.mul_le_mul (Nat.pow_le_pow_right (by omega) (by omega)) (Nat.le_of_lt hb2)
    _ = 1 * 10 ^ 80 := (Nat.pow_add 10 40 40).symm.trans (Nat.one_mul _).symm
    _ ≤ a * 10 ^ 80 := Nat.mul_le_mul_right _ ha
theorem RS_sq {f dir p : Int} {m k1 k2 : Nat} {e : Int} (hm : 0 < m) (h1 : 2 * fP f + 6 ≤ k1) (hk : k1 ≤ k2) (e1 : (e - k1) % 2 = 0) (e2 : (e - k2) % 2 = 0) :
    ocR f dir (sqrtV (m * 10 ^ k1) ((e - k1) / 2) p) = RS f false dir p (nmOf (isq (m * 10 ^ k2)) ((e - k2) / 2) (decide (m * 10 ^ k2 ≠ isq (m * 10 ^ k2) * isq (m * 10 ^ k2)))) := by
  obtain ⟨j, hj⟩ : ∃ j : Nat, k2 = k1 + 2 * j := ⟨(k2 - k1) / 2, by omega⟩
  have hv : m * 10 ^ k2 = m * 10 ^ k1 * (10 ^ j * 10 ^ j) := by
    rw [hj, Nat.pow_add, Nat.two_mul, Nat.pow_add, Nat.mul_assoc]
  have he : (e - k2) / 2 = (e - k1) / 2 - j := by omega
  rw [he, hv];have h2P : 10 ^ (2 * fP f) ≤ m * 10 ^ k1 := Nat.le_trans (Nat.pow_le_pow_right (by omega) (by omega)) (Nat.le_mul_of_pos_left _ hm);rw [← RS_root (e := (e - k1) / 2) h2P (Zfy (m * 10 ^ k1)) (Zfy (m * 10 ^ k1 * (10 ^ j * 10 ^ j)))];generalize (e - (k1 : Int)) / 2 = E;generalize m * 10 ^ k1 = v;have hR := Zfy v;unfold sqrtV;generalize isq v = s at hR ⊢
  by_cases h : v = s * s
  · rw [if_pos (by omega), show decide (v ≠ s * s) = false by simp [h]]
    exact ocR_n ..
  rw [if_neg (by have := hR.1; omega), show decide (v ≠ s * s) = true by simp [h], ocR_n];show RS f false dir p ⟨s * 10 + 1, 1, E - 1⟩ = RS f false dir p ⟨10 * s + 1, 1, E - 1⟩;rw [Nat.mul_comm s 10]
theorem sq_more {f : Int} {m k : Nat} (hm : 0 < m) (h : 2 * fP f ≤ k) : 10 ^ fP f ≤ isq (m * 10 ^ k) := by
  refine (Zfy _).le ?_;rw [← Nat.pow_add];exact Nat.le_trans (Nat.pow_le_pow_right (by omega) (by omega)) (Nat.le_mul_of_pos_left _ hm)
def remX (m n : Nat) (ea eb : Int) : Nat × Nat := (m * 10 ^ (ea - min ea eb).toNat, n * 10 ^ (eb - min ea eb).toNat)
theorem mod2_q (x y : Nat) : x % (y + y) / y % 2 = x / y % 2 := by
  rw [show y + y = y * 2 by omega, Nat.mod_mul_right_div_self, Nat.mod_mod]
theorem mod2_r (x y : Nat) : x % (y + y) % y = x % y := Nat.mod_mod_of_dvd _ ⟨2, by omega⟩
theorem Zky (x y : Nat) : ZbR (x % (y + y)) y = ZbR x y := by
  unfold ZbR; rw [mod2_r, mod2_q]
theorem leftR_mod (x y : Nat) : ZbB (x % (y + y)) y = ZbB x y := by
  unfold ZbB; rw [Zky, mod2_r]
theorem rem_same (m n : Nat) (ea eb : Int) : ZbR (remP m n ea eb).1 (remP m n ea eb).2 = ZbR (remX m n ea eb).1 (remX m n ea eb).2 ∧ ZbB (remP m n ea eb).1 (remP m n ea eb).2 = ZbB (remX m n ea eb).1 (remX m n ea eb).2 := by
  unfold remP remX
  by_cases h : eb < ea
  · rw [if_pos h, show min ea eb = eb by omega, show (eb - eb).toNat = 0 by omega, Nat.pow_zero, Nat.mul_one]
    show ZbR (m * (10 ^ (ea - eb).toNat % (n + n)) % (n + n)) n = _ ∧ ZbB (m * (10 ^ (ea - eb).toNat % (n + n)) % (n + n)) n = _
    have e : m * (10 ^ (ea - eb).toNat % (n + n)) % (n + n) = m * 10 ^ (ea - eb).toNat % (n + n) := by
      rw [Nat.mul_mod, Nat.mod_mod, ← Nat.mul_mod]
    rw [e, Zky, leftR_mod];exact ⟨rfl, rfl⟩
  rw [if_neg h, show min ea eb = ea by omega, show (ea - ea).toNat = 0 by omega, Nat.pow_zero, Nat.mul_one];exact ⟨rfl, rfl⟩
theorem rem_far {f : Int} {m n : Nat} {ea eb : Int} (hm : m < 10 ^ fP f) (hn : 0 < n) (h : ¬ eb < ea ∧ (fP f : Int) + 1 < eb - ea) : ZbR (remX m n ea eb).1 (remX m n ea eb).2 = false ∧ ZbB (remX m n ea eb).1 (remX m n ea eb).2 = m := by
  unfold remX;rw [show min ea eb = ea by omega, show (ea - ea).toNat = 0 by omega, Nat.pow_zero, Nat.mul_one]
  have h1 : 2 * m < n * 10 ^ (eb - ea).toNat := by
    have h2 := Nat.pow_le_pow_right (n := 10) (by omega) (show fP f + 1 ≤ (eb - ea).toNat by omega);rw [Nat.pow_succ] at h2;have h3 := Nat.le_mul_of_pos_left (10 ^ (eb - ea).toNat) hn;omega
  generalize n * 10 ^ (eb - ea).toNat = y at h1;show ZbR m y = false ∧ ZbB m y = m
  have hb : ZbR m y = false := by
    unfold ZbR;rw [Nat.mod_eq_of_lt (by omega)];exact decide_eq_false (by omega)
  refine ⟨hb, ?_⟩;unfold ZbB;rw [hb, Nat.mod_eq_of_lt (by omega)];rfl
theorem left_zero {x y : Nat} (hy : 0 < y) (h : ZbB x y = 0) : ZbR x y = false := by
  cases hb : ZbR x y with
  | false => rfl
  | true =>
    unfold ZbB at h;rw [hb] at h;have := Nat.mod_lt x hy;replace h : y - x % y = 0 := h;omega
theorem ocR_left (f dir : Int) (s : Bool) (x y : Nat) (e p : Int) (hy : 0 < y) : ocR f dir (.ex (sgnd (s != ZbR x y) (ZbB x y)) 1 e s p) = RS f (s != ZbR x y) dir p ⟨ZbB x y, 1, e⟩ := by
  by_cases h : ZbB x y = 0
  · have hb := left_zero hy h
    rw [hb, Bool.bne_false];exact ocR_s ..
  show RS f (if sgnd _ _ = 0 then s else decide (sgnd (s != ZbR x y) (ZbB x y) < 0)) dir p ⟨(sgnd _ _).natAbs, 1, e⟩ = _;rw [Zw, if_neg (fun h1 => h ((Z0 _ _).1 h1)), ZaO, decide_eq_true (show 0 < ZbB x y by omega), Bool.and_true]
noncomputable def remG (f : Int) (a b : Dt) : Rs :=
  RS f (a.neg != ZbR (remX (val a.coef) (val b.coef) a.exp b.exp).1 (remX (val a.coef) (val b.coef) a.exp b.exp).2) 1 (min a.exp b.exp) ⟨ZbB (remX (val a.coef) (val b.coef) a.exp b.exp).1 (remX (val a.coef) (val b.coef) a.exp b.exp).2, 1, min a.exp b.exp⟩
theorem remX_pos {m n : Nat} {ea eb : Int} (hn : 0 < n) : 0 < (remX m n ea eb).2 := Nat.mul_pos hn (Nat.pow_pos (by omega))
theorem rem_law {f : Int} {a b : Dt} {m n : Nat} (ha : dtF f a m) (hb : dtF f b n) (hn : 0 < n) (h1 : ¬ (a.cls = 2 ∨ isZD b = true)) (h2 : ¬ b.cls = 2) : ∃ x, remO f a b = some x ∧ ocR f 1 x = remG f a b := by
  unfold remO remG;rw [if_neg h1, if_neg h2, ha.z, ha.co, hb.co, Zl, Zl];obtain ⟨e1, e2⟩ := rem_same m n a.exp b.exp
  by_cases h3 : ¬ b.exp < a.exp ∧ (fP f : Int) + 1 < b.exp - a.exp
  · rw [if_pos h3]
    obtain ⟨e3, e4⟩ := rem_far ha.lt hn h3;rw [e3, e4, Bool.bne_false];exact ⟨_, rfl, ocR_s ..⟩
  rw [if_neg h3, e1, e2];exact ⟨_, rfl, ocR_left _ _ _ _ _ _ _ (remX_pos hn)⟩
theorem quan_at {f : Int} {m : Nat} {ea eb : Int} (hm : 0 < m) (hm2 : m < 10 ^ fP f) : pc (qN m (ea - eb)) (qD f (ea - eb)) = (nmOf m ea false).at eb := by
  have hp := ZW f;show _ = pc (m * tt (ea - eb)) (1 * tt (eb - ea));rw [Nat.one_mul];unfold qN qD tt;rw [show (-(ea - eb)).toNat = (eb - ea).toNat by omega]
  rcases Nat.lt_or_ge (2 * fP f) (eb - ea).toNat with h | h
  · rw [show (ea - eb).toNat = 0 by omega, Nat.pow_zero, Nat.mul_one, Nat.min_eq_left (Nat.le_of_lt h)]
    have h1 : 2 * m < 10 ^ (2 * fP f) := by
      have := Nat.pow_le_pow_right (n := 10) (by omega) (show fP f + 1 ≤ 2 * fP f by omega);rw [Nat.pow_succ] at this; omega
    have h2 : 2 * m < 10 ^ (eb - ea).toNat := Nat.lt_of_lt_of_le h1 (Nat.pow_le_pow_right (by omega) (by omega));rw [Ziz hm h1, Ziz hm h2]
  rw [Nat.min_eq_right h]
theorem quan_big {f dir : Int} {s : Bool} {m : Nat} {ea eb : Int} (hm : 0 < m) (h : (fP f : Int) < ea - eb) : 10 ^ fP f ≤ rnd dir s ((nmOf m ea false).at eb) := by
  rw [nm_up (by omega)];have e : rnd dir s (m * 10 ^ (ea - eb).toNat, false, -1) = m * 10 ^ (ea - eb).toNat := rfl;rw [e];exact Nat.le_trans (Nat.pow_le_pow_right (by omega) (by omega)) (Nat.le_mul_of_pos_left _ hm)
open Go.RowKit Go.Proofs
theorem Zhu {d : Dt} (h : okD d = true) : -7000 ≤ d.exp ∧ d.exp ≤ 7000 := by
  have hb := f_le d.fmt;unfold okD at h;simp only [Bool.and_eq_true] at h;have hv := h.2;unfold okV at hv
  split at hv
  · simp only [Bool.and_eq_true, decide_eq_true_eq] at hv; omega
  split at hv
  · simp only [Bool.and_eq_true, decide_eq_true_eq] at hv; omega
  split at hv
  · simp only [Bool.and_eq_true, decide_eq_true_eq] at hv; omega
  cases hv
theorem Zgk {d0 : Dt} {l : List Dt} {dir : Int} {x : Oc} {oc : Option Oc} (hc : chkL d0 l dir = 0) (hn : nanO l = none) (ho : oc = some x) : ZR d0 l dir oc = (ocR d0.fmt dir x, 0) := by
  unfold ZR;rw [if_pos hc, hn, ho]
theorem Zf5 {d0 : Dt} {l : List Dt} {dir : Int} {oc : Option Oc} (hc : ¬ chkL d0 l dir = 0) : ZR d0 l dir oc = (rsZ, chkL d0 l dir) := by
  unfold ZR;rw [if_neg hc]
theorem Zf6 {d0 : Dt} {l : List Dt} {dir : Int} {oc : Option Oc} {r : Rs} (hc : chkL d0 l dir = 0) (hn : nanO l = some r) : ZR d0 l dir oc = (r, 0) := by
  unfold ZR;rw [if_pos hc, hn]
theorem ZbK (d : Dt) : PC C 86 [dtD d] (fun o => o = .ret (.bool (isZD d))) := by
  refine Znr Tryz.func86 Tryz.ntmps86 Tryz.results86 ?_;refine go ?_;refine zzb ?_; refine zza ?_; refine zzt ?_; refine zzf ?_; refine zzl ?_; refine zzi ?_; refine Zr ?_;apply Znu 6 (fun sj1 => [(6, .any), (7, .any), (8, .any), (9, .any), (10, .any), (11, .bool sj1)]) rfl
  · intro hj1 run1
    try replace hj1 := Zh hj1
    refine zzf ?_; refine zzl ?_; refine zzN ?_; refine zzi ?_; refine ZK ?_;exact AOps.ag run1
  · intro hj1 run1
    try replace hj1 := Zj hj1
    refine Zg ?_; refine Zg ?_; refine Zg ?_; refine Zg ?_; refine ZK ?_;exact AOps.ag run1
  refine go ?_;refine Zno ?_;rfl
theorem ZjW {f : Int} (a b : Dt) (m n : Nat) (ha : dtF f a m) (hb : dtF f b n) : PC C 88 [dtD a, dtD b] (fun o => o = .ret (nuD ⟨a.neg != b.neg, m * n, a.exp + b.exp, false⟩)) := by
  have hp := ZW f;have h1 := ha.e1; have h2 := ha.e2; have h3 := hb.e1; have h4 := hb.e2;have lm := fitW ha.lt (by omega);have ln := fitW hb.lt (by omega);have hac := ha.co;have hbc := hb.co;clear ha hb;obtain ⟨fa, ca, sa, xa, ea⟩ := a;obtain ⟨fb, cb, sb, xb, eb⟩ := b;obtain rfl : xa = lim m := hac;obtain rfl : xb = lim n := hbc;dsimp only at h1 h2 h3 h4;refine Znr Tryz.func88 Tryz.ntmps88 Tryz.results88 ?_;refine go ?_;refine zzb ?_; refine zzb ?_;refine go ?_;refine zdr 16 mixC ?_;refine zdf ?_;refine zdl ?_;refine zdf ?_;refine zdl ?_;refine .op rfl (Zbu rfl rfl rfl) ?_;refine gd ?_;refine .op rfl (Zb rfl rfl (Zcx m n (by omega) (by omega))) ?_;refine gd ?_;refine .op rfl (Zf rfl rfl (IntWalk.i64_in _ (by dsimp only; omega))) ?_;refine .op rfl (Zal rfl rfl rfl rfl rfl) ?_;refine .nil (fun hG => ?_);refine go ?_;refine Zns ?_;rfl
theorem mul_lt2 {f : Int} {m n : Nat} (h1 : m < 10 ^ fP f) (h2 : n < 10 ^ fP f) : m * n < 10 ^ (2 * fP f) := by
  rw [Nat.two_mul, Nat.pow_add]; exact Nat.mul_lt_mul'' h1 h2
theorem Zmz (a b : Dt) (dir : Int) (ha : U32 a.coef) (hb : U32 b.coef) : PC C 26 [dtD a, dtD b, .int .i64 dir] (fun o => o = .ret (ZfZ (ZR a [a, b] dir (mulO a.fmt a b)).1 (ZR a [a, b] dir (mulO a.fmt a b)).2)) := by
  have hu : ∀ d ∈ [a, b], U32 d.coef := fun d hd => by
    simp only [List.mem_cons, List.not_mem_nil, or_false] at hd
    rcases hd with rfl | rfl <;> assumption
  have hC := Zbs a [b] 2 dir rfl hu;have hN := Zc9 [a, b] 2 rfl;obtain ⟨R, hR⟩ : ∃ R, R = ZR a [a, b] dir (mulO a.fmt a b) := ⟨_, rfl⟩;rw [← hR];refine Znr Tryz.func26 Tryz.ntmps26 Tryz.results26 ?_;refine go ?_;refine zzb ?_; refine zzb ?_;refine go ?_;refine Za rfl (Zd rfl rfl rfl rfl rfl rfl rfl rfl rfl rfl rfl (by decide) (by decide) rfl) ?_;refine go ?_;refine Zc rfl rfl (hC) ?_;refine go ?_;refine ARun.cond rfl (fun h0 => ?_) (fun h0 => ?_)
  · skip
    have h0 : ¬ chkL a [a, b] dir = 0 := by simpa using h0
    refine go ?_;refine ARun.ret ?_;refine ⟨_, _, _, Znt rfl rfl rfl rfl rfl rfl .nil, .cons (Zgi _) .nil, rfl, ?_⟩;rw [hR, Zf5 h0]; rfl
  have h0 : chkL a [a, b] dir = 0 := by simpa using h0
  obtain ⟨hdr, hall, hfm⟩ := Zbn h0;simp only [List.all_cons, List.all_nil, Bool.and_true, Bool.and_eq_true, decide_eq_true_eq] at hall hfm;obtain ⟨m, hm⟩ := ZbW ha hall.1;obtain ⟨n, hn⟩ := ZbW hb hall.2;rw [hfm.2] at hn;have hp := ZW a.fmt;have hea := Zhu hall.1;have heb := Zhu hall.2;refine go ?_;refine Zc rfl rfl (hN) ?_;refine ga ?_;refine ZI rfl rfl rfl rfl rfl rfl rfl rfl rfl rfl rfl ?_;refine gn ?_;refine Za rfl (Zbu rfl rfl rfl) ?_;refine go ?_;refine ARun.cond rfl (fun h1 => ?_) (fun h1 => ?_)
  · skip
    obtain ⟨r, hr⟩ := Option.isSome_iff_exists.1 h1;rw [hr];refine go ?_;refine Zc rfl rfl (Zv r) ?_;refine go ?_;refine Zns ?_;rw [hR, Zf6 h0 hr]; try rfl
  have h1 : nanO [a, b] = none := by simpa using h1
  rw [h1];refine zzs ?_; refine zzf ?_; refine zzl ?_; refine zzi ?_; refine Zr ?_;apply Znu 40 (fun sj1 => [(40, .any), (41, .any), (42, .any), (43, .bool sj1)]) rfl
  · intro hj1 run1
    try replace hj1 := Zh hj1
    refine zzL ?_;refine Zc rfl rfl (ZbK b) ?_;refine ZK ?_;exact AOps.ag run1
  · intro hj1 run1
    try replace hj1 := Zj hj1
    refine Zg ?_; refine Zg ?_; refine ZK ?_;exact AOps.ag run1
  refine Zr ?_;apply ZnB 44 (fun sj2 => [(44, .any), (45, .any), (46, .any), (47, .any), (48, .any), (49, .any), (50, .any), (51, .any), (52, .bool sj2)]) rfl
  · intro hj2 run2
    try replace hj2 := Zh hj2
    refine Zg ?_; refine Zg ?_; refine Zg ?_; refine Zg ?_; refine Zg ?_; refine Zg ?_; refine Zg ?_; refine ZK ?_;exact AOps.ag run2
  · intro hj2 run2
    try replace hj2 := Zj hj2
    refine zzf ?_; refine zzl ?_; refine zzi ?_; refine Zr ?_;apply Znu 48 (fun sj3 => [(48, .any), (49, .any), (50, .any), (51, .bool sj3)]) rfl
    · intro hj3 run3
      try replace hj3 := Zh hj3
      refine zzL ?_;refine Zc rfl rfl (ZbK a) ?_;refine ZK ?_;exact AOps.ag run3
    · intro hj3 run3
      try replace hj3 := Zj hj3
      refine Zg ?_; refine Zg ?_; refine ZK ?_;exact AOps.ag run3
    refine ZK ?_;exact AOps.ag run2
  refine go ?_;refine ARun.cond rfl (fun h2 => ?_) (fun h2 => ?_)
  · skip
    have h2 : Zfn a b = true := by unfold Zfn; rw [Bool.and_comm (isZD a)]; exact h2
    refine go ?_;refine Zc rfl rfl (ZaY a.fmt) ?_;refine Zc rfl rfl (Zv ⟨⟨a.fmt, 3, false, [], 0⟩, 1⟩) ?_;refine go ?_;refine Zns ?_;rw [hR, Zep h0 h1 (by unfold mulO; rw [if_pos h2])]; try rfl
  have h2 : ¬ Zfn a b = true := by unfold Zfn; rw [Bool.and_comm (isZD a)]; intro h9; rw [h9] at h2; cases h2
  refine zzs ?_; refine zzf ?_; refine zzl ?_; refine zzi ?_; refine Zr ?_;apply ZnB 61 (fun sj4 => [(61, .any), (62, .any), (63, .any), (64, .any), (65, .bool sj4)]) rfl
  · intro hj4 run4
    try replace hj4 := Zh hj4
    refine Zg ?_; refine Zg ?_; refine Zg ?_; refine ZK ?_;exact AOps.ag run4
  · intro hj4 run4
    try replace hj4 := Zj hj4
    refine zzf ?_; refine zzl ?_; refine zzi ?_; refine ZK ?_;exact AOps.ag run4
  refine go ?_;refine ARun.cond rfl (fun h3 => ?_) (fun h3 => ?_)
  · skip
    have h3 : a.cls = 2 ∨ b.cls = 2 := by simpa using h3
    refine go ?_;refine Zc rfl rfl (Zbx a.fmt (a.neg != b.neg)) ?_;refine Zc rfl rfl (Zv ⟨infD a.fmt (a.neg != b.neg), 0⟩) ?_;refine go ?_;refine Zns ?_;rw [hR, Zdk h0 h1 (by unfold mulO; rw [if_neg h2, if_pos h3])]; try rfl
  have h3 : ¬ (a.cls = 2 ∨ b.cls = 2) := by simpa using h3
  have hmn := mul_lt2 hm.lt hn.lt;refine go ?_;refine zdr 13 mixC ?_;refine .op rfl (Ze rfl rfl rfl rfl rfl) ?_;refine .op rfl (Ze rfl rfl rfl rfl rfl) ?_;refine .op rfl (Zb rfl rfl (ZjW a b m n hm hn)) ?_;refine gd ?_;refine .op rfl (Zf rfl rfl (IntWalk.i64_in _ (by omega))) ?_;refine .op rfl (Zb rfl rfl (Zbr ⟨a.neg != b.neg, m * n, a.exp + b.exp, false⟩ a.fmt dir (a.exp + b.exp) hdr (fun h => by cases h) (@ZG _ _ 3000 hmn (by omega)) (by dsimp only; omega) (by omega))) ?_;refine .op rfl (Zb rfl rfl (Zv (RS a.fmt (a.neg != b.neg) dir (a.exp + b.exp) (nmOf (m * n) (a.exp + b.exp) false)))) ?_;refine .nil (fun hG => ?_);refine go ?_;refine Zns ?_;rw [hR, Zgk h0 h1 (by unfold mulO; rw [if_neg h2, if_neg h3]), hm.z, hn.z, prod_sgnd, ocR_s]; try rfl
theorem ZmA (a b : Dt) (dir : Int) (ha : U32 a.coef) (hb : U32 b.coef) : PC C 27 [dtD a, dtD b, .int .i64 dir] (fun o => o = .ret (ZfZ (ZR a [a, b] dir (divO a.fmt a b)).1 (ZR a [a, b] dir (divO a.fmt a b)).2)) := by
  have hu : ∀ d ∈ [a, b], U32 d.coef := fun d hd => by
    simp only [List.mem_cons, List.not_mem_nil, or_false] at hd
    rcases hd with rfl | rfl <;> assumption
  have hC := Zbs a [b] 2 dir rfl hu;have hN := Zc9 [a, b] 2 rfl;obtain ⟨R, hR⟩ : ∃ R, R = ZR a [a, b] dir (divO a.fmt a b) := ⟨_, rfl⟩;rw [← hR];refine Znr Tryz.func27 Tryz.ntmps27 Tryz.results27 ?_;refine go ?_;refine zzb ?_; refine zzb ?_;refine go ?_;refine Za rfl (Zd rfl rfl rfl rfl rfl rfl rfl rfl rfl rfl rfl (by decide) (by decide) rfl) ?_;refine go ?_;refine Zc rfl rfl (hC) ?_;refine go ?_;refine ARun.cond rfl (fun h0 => ?_) (fun h0 => ?_)
  · skip
    have h0 : ¬ chkL a [a, b] dir = 0 := by simpa using h0
    refine go ?_;refine ARun.ret ?_;refine ⟨_, _, _, Znt rfl rfl rfl rfl rfl rfl .nil, .cons (Zgi _) .nil, rfl, ?_⟩;rw [hR, Zf5 h0]; rfl
  have h0 : chkL a [a, b] dir = 0 := by simpa using h0
  obtain ⟨hdr, hall, hfm⟩ := Zbn h0;simp only [List.all_cons, List.all_nil, Bool.and_true, Bool.and_eq_true, decide_eq_true_eq] at hall hfm;obtain ⟨m, hm⟩ := ZbW ha hall.1;obtain ⟨n, hn⟩ := ZbW hb hall.2;rw [hfm.2] at hn;have hp := ZW a.fmt;have hea := Zhu hall.1;have heb := Zhu hall.2;have hb := f_le a.fmt;refine go ?_;refine Zc rfl rfl (hN) ?_;refine ga ?_;refine ZI rfl rfl rfl rfl rfl rfl rfl rfl rfl rfl rfl ?_;refine gn ?_;refine Za rfl (Zbu rfl rfl rfl) ?_;refine go ?_;refine ARun.cond rfl (fun h1 => ?_) (fun h1 => ?_)
  · skip
    obtain ⟨r, hr⟩ := Option.isSome_iff_exists.1 h1;rw [hr];refine go ?_;refine Zc rfl rfl (Zv r) ?_;refine go ?_;refine Zns ?_;rw [hR, Zf6 h0 hr]; try rfl
  have h1 : nanO [a, b] = none := by simpa using h1
  rw [h1];refine zzs ?_; refine zzf ?_; refine zzl ?_; refine zzi ?_; refine Zr ?_;apply Znu 43 (fun sj1 => [(43, .any), (44, .any), (45, .any), (46, .any), (47, .bool sj1)]) rfl
  · intro hj1 run1
    try replace hj1 := Zh hj1
    refine zzf ?_; refine zzl ?_; refine zzi ?_; refine ZK ?_;exact AOps.ag run1
  · intro hj1 run1
    try replace hj1 := Zj hj1
    refine Zg ?_; refine Zg ?_; refine Zg ?_; refine ZK ?_;exact AOps.ag run1
  refine Zr ?_;apply ZnB 48 (fun sj2 => [(48, .any), (49, .any), (50, .any), (51, .any), (52, .any), (53, .any), (54, .any), (55, .bool sj2)]) rfl
  · intro hj2 run2
    try replace hj2 := Zh hj2
    refine Zg ?_; refine Zg ?_; refine Zg ?_; refine Zg ?_; refine Zg ?_; refine Zg ?_; refine ZK ?_;exact AOps.ag run2
  · intro hj2 run2
    try replace hj2 := Zj hj2
    refine zzL ?_;refine Zc rfl rfl (ZbK a) ?_;refine Zr ?_;apply Znu 51 (fun sj3 => [(51, .any), (52, .any), (53, .any), (54, .bool sj3)]) rfl
    · intro hj3 run3
      try replace hj3 := Zh hj3
      refine zzL ?_;refine Zc rfl rfl (ZbK b) ?_;refine ZK ?_;exact AOps.ag run3
    · intro hj3 run3
      try replace hj3 := Zj hj3
      refine Zg ?_; refine Zg ?_; refine ZK ?_;exact AOps.ag run3
    refine ZK ?_;exact AOps.ag run2
  refine go ?_;refine ARun.cond rfl (fun h2 => ?_) (fun h2 => ?_)
  · skip
    have h2 : Zfo a b = true := h2;refine go ?_;refine Zc rfl rfl (ZaY a.fmt) ?_;refine Zc rfl rfl (Zv ⟨⟨a.fmt, 3, false, [], 0⟩, 1⟩) ?_;refine go ?_;refine Zns ?_;rw [hR, Zep h0 h1 (by unfold divO; rw [if_pos h2])]; try rfl
  have h2 : ¬ Zfo a b = true := by intro h9; unfold Zfo at h9; rw [h9] at h2; cases h2
  refine go ?_;refine ARun.cond rfl (fun h3 => ?_) (fun h3 => ?_)
  · skip
    have h3 : a.cls = 2 := by simpa using h3
    refine go ?_;refine Zc rfl rfl (Zbx a.fmt (a.neg != b.neg)) ?_;refine Zc rfl rfl (Zv ⟨infD a.fmt (a.neg != b.neg), 0⟩) ?_;refine go ?_;refine Zns ?_;rw [hR, Zdk h0 h1 (by unfold divO; rw [if_neg h2, if_pos h3])]; try rfl
  have h3 : ¬ a.cls = 2 := by simpa using h3
  refine go ?_;refine ARun.cond rfl (fun h4 => ?_) (fun h4 => ?_)
  · skip
    have h4 : b.cls = 2 := by simpa using h4
    refine ARun.seq ?_;refine zdr 10 mixC ?_;refine gd ?_;refine .op rfl (Zb rfl rfl (ZfB a.fmt)) ?_;refine .op rfl (Zlk Tryz.underlying114 rfl rfl rfl rfl rfl) ?_;refine .op rfl (Zb rfl rfl (Zes a.fmt (a.neg != b.neg) (fLo a.fmt))) ?_;refine .op rfl (Zal rfl rfl rfl rfl rfl) ?_;refine .op rfl (Zb rfl rfl (Zv ⟨⟨a.fmt, 1, a.neg != b.neg, [], fLo a.fmt⟩, 0⟩)) ?_;refine .nil (fun hG => ?_);refine go ?_;refine Zns ?_;rw [hR, Zgk h0 h1 (by unfold divO; rw [if_neg h2, if_neg h3, if_pos h4]), ocR_0];unfold zro finD;rw [show min (max (fLo a.fmt) (fLo a.fmt)) (fHi a.fmt) = fLo a.fmt by omega, ZA]; try rfl
  have h4 : ¬ b.cls = 2 := by simpa using h4
  refine go ?_;refine Zc rfl rfl (ZbK b) ?_;refine go ?_;refine ARun.cond rfl (fun h5 => ?_) (fun h5 => ?_)
  · skip
    refine go ?_;refine Zc rfl rfl (Zbx a.fmt (a.neg != b.neg)) ?_;refine go ?_;refine Zc rfl rfl (Zv ⟨infD a.fmt (a.neg != b.neg), 2⟩) ?_;refine go ?_;refine Zns ?_;rw [hR, Zdk h0 h1 (by unfold divO; rw [if_neg h2, if_neg h3, if_neg h4, if_pos h5])]; try rfl
  have h5 : ¬ isZD b = true := by rw [h5]; decide
  have hn0 : 0 < n := by
    have hc := Zc4 hall.2 (Zgj h0 h1).2.2.2.2 h4
    have h6 : n ≠ 0 := fun h0 => h5 (by unfold isZD; rw [hc, hn.co, lenz, h0]; rfl)
    omega
  have lm := fitW hm.lt (by omega);have ln := fitW hn.lt (by omega);have hn40 : n < 10 ^ 40 := ZG hn.lt (by omega);have hm80 : m * 10 ^ 80 < 10 ^ 120 := Zak hm.lt (by omega);have l80 := fitW hm80 (by omega);have hq : m * 10 ^ 80 / n < 10 ^ 120 := Nat.lt_of_le_of_lt (Nat.div_le_self _ _) hm80;have hmore := quo_more (f := a.fmt) (a := m) hn0 hn40;have hmc := hm.co;have hnc := hn.co
  have hMl : PC C 92 [sln .u32 a.coef, numD (10 ^ 80)] (fun o => o = .ret (numD (m * 10 ^ 80))) := by rw [hmc]; exact Zcx m (10 ^ 80) (by omega) (by have := fitT (n := 80) (by omega); omega)
  have hDv : PC C 91 [numD (m * 10 ^ 80), sln .u32 b.coef] (fun o => o = .ret (.agg [numD (m * 10 ^ 80 / n), numD (m * 10 ^ 80 % n)])) := by rw [hnc]; exact Zi2 (m * 10 ^ 80) n (by omega) (by omega) hn0
  have hQ := RS_quo0 (f := a.fmt) (neg := a.neg != b.neg) (dir := dir) (prefer := a.exp - b.exp) (a := m) (e := a.exp - b.exp) hn0 hn40
  have hval : ZR a [a, b] dir (divO a.fmt a b) = (RS a.fmt (a.neg != b.neg) dir (a.exp - b.exp) ⟨m, n, a.exp - b.exp⟩, 0) := by
    rw [Zgk h0 h1 (by unfold divO; rw [if_neg h2, if_neg h3, if_neg h4, if_neg h5]), hmc, hnc, Zl, Zl, ocR_s]
  rw [hval, hQ] at hR;generalize m * 10 ^ 80 / n = q at *;generalize m * 10 ^ 80 % n = r at *;refine go ?_;refine ZnF (n := 9) (fun S : Nat → Bool => _) [(7, 13, 117, [.nilsl, .nilsl], some (8, [numD q, numD r]))] (fun _ => False) (sk := [(7, some 8)]) mixC rfl rfl (by kernel_rfl) rfl (by kernel_rfl) rfl rfl (fun _ _ _ h => h.elim) ?_;refine DChG.op rfl (fun _ => Zb7 rfl rfl rfl (by decide)) (fun _ => rfl) rfl rfl ?_;refine DChG.op rfl (fun _ => ZP rfl rfl rfl rfl) (fun _ => rfl) rfl rfl ?_;refine DChG.op rfl (fun _ => Zb rfl rfl (ZbS 80 (by omega))) (fun _ => rfl) rfl rfl ?_;refine DChG.op rfl (fun _ => Zb rfl rfl (hMl)) (fun _ => rfl) rfl rfl ?_;refine DChG.op rfl (fun _ => Zb7 rfl rfl rfl (by decide)) (fun _ => rfl) rfl rfl ?_;refine DChG.op rfl (fun _ => ZP rfl rfl rfl rfl) (fun _ => rfl) rfl rfl ?_;refine DChG.op rfl (fun _ => Zb rfl rfl (hDv)) (fun _ => rfl) rfl rfl ?_;refine .al rfl rfl rfl rfl (fun _ => rfl) rfl rfl rfl ?_;refine .sp (j := 7) rfl rfl rfl rfl rfl rfl rfl (fun _ => rfl) rfl rfl rfl (by kernel_rfl) ?_;refine .nil (fun hG => ZnH (as' := [(7, 13, 117, [numD q, numD r])]) rfl ?_);refine gn ?_;refine Za rfl (Zk rfl rfl (IntWalk.i64_in _ (by omega))) ?_;refine Za rfl (Zk rfl rfl (IntWalk.i64_in _ (by omega))) ?_;refine gn ?_;refine Za rfl (Zb9 (b := decide (r ≠ 0)) rfl rfl rfl lenpos) ?_;refine zzB ?_;refine ZI rfl rfl rfl rfl rfl rfl rfl rfl rfl rfl rfl ?_;refine gn ?_;refine Za rfl (Zk rfl rfl (IntWalk.i64_in _ (by omega))) ?_;refine Zc rfl rfl (Zbr ⟨a.neg != b.neg, q, a.exp - b.exp - 80, decide (r ≠ 0)⟩ a.fmt dir (a.exp - b.exp) hdr hmore (@ZG _ _ 3000 hq (by omega)) (by dsimp only; omega) (by omega)) ?_;refine Zc rfl rfl (Zv (RS a.fmt (a.neg != b.neg) dir (a.exp - b.exp) (nmOf q (a.exp - b.exp - 80) (decide (r ≠ 0))))) ?_;refine go ?_;refine Zns ?_;rw [hR]; try rfl
theorem ZgH (a b : Dt) (dir : Int) (ha : U32 a.coef) (hb : U32 b.coef) : PC Cd 4 [dtD a, dtD b, .int .i64 dir] (fun o => o = .ret (.bool true)) := by
  refine Znr Tryz.func4 Tryz.ntmps4 Tryz.results4 ?_;refine go ?_;refine zzb ?_; refine zzb ?_;refine go ?_;refine Za rfl (Zd rfl rfl rfl rfl rfl rfl rfl rfl rfl rfl rfl (by decide) (by decide) rfl) ?_;refine Zc rfl rfl (PC.gl (Zdp [a, b] 2 rfl)) ?_;refine go ?_;refine ARun.cond rfl (fun h => ?_) (fun h => ?_)
  · skip
    refine go ?_;refine Zc rfl rfl (ZaA) ?_;refine go ?_;refine Zno ?_;rfl
  have h : ZcM [a, b] = true := by simpa using h
  obtain ⟨h1, h2⟩ := light2 h;refine go ?_;refine Zc rfl rfl (Zkg a b dir ⟨ha, h1⟩ ⟨hb, h2⟩) ?_;refine go ?_;refine Zc rfl rfl (ZhJ a b dir ⟨ha, h1⟩ ⟨hb, h2⟩) ?_;refine go ?_;refine zdr 19 mixC ?_;refine .op rfl (Zp rfl rfl rfl rfl rfl rfl) ?_;refine zdm ?_;refine .op rfl (Ze rfl rfl rfl rfl rfl) ?_;refine .op rfl (Ze rfl rfl rfl rfl rfl) ?_;refine zdm ?_;refine .op rfl (Zb rfl rfl (PC.gl (Zmz a b dir ha hb))) ?_;refine .op rfl (Zb rfl rfl (is_ok (ZR a [a, b] dir (mulO a.fmt a b)).1 (ZR a [a, b] dir (mulO a.fmt a b)).2)) ?_;refine zdm ?_;refine .op rfl (Zp rfl rfl rfl rfl rfl rfl) ?_;refine zdm ?_;refine .op rfl (Ze rfl rfl rfl rfl rfl) ?_;refine .op rfl (Ze rfl rfl rfl rfl rfl) ?_;refine zdm ?_;refine .op rfl (Zb rfl rfl (PC.gl (ZmA a b dir ha hb))) ?_;refine .op rfl (Zb rfl rfl (is_ok (ZR a [a, b] dir (divO a.fmt a b)).1 (ZR a [a, b] dir (divO a.fmt a b)).2)) ?_;refine .op rfl (Zaw rfl rfl rfl rfl) ?_;refine zdm ?_;refine .op rfl (Zb rfl rfl (ZaA)) ?_;refine .op rfl (Zaw rfl rfl rfl rfl) ?_;refine .nil (fun hG => ?_);refine go ?_;refine Zno ?_;rfl
theorem r_same1 (a : Nat) : PC C 126 [numD a, .sl 1 [.int .u32 1]] (fun o => o = .ret (.bool (decide (a = 1)))) := by
  have h := Zj5 (lim a) (lim 1);rw [show sln .u32 (lim 1) = D.sl 1 [.int .u32 1] from ZO.symm] at h
  refine h.mono fun o ho => ?_
  rw [ho]
  congr 3
  exact propext ⟨fun h => by rw [← Zl a, h, Zl], fun h => by rw [h]⟩
theorem Zm6 (a n : Nat) (ha : (lim a).length ≤ 1024) (hn : n ≤ 9223372036854775807) : PC C 178 [numD a, .int .i64 (n : Int)] (fun o => o = .ret (.tup [numD (powR a n).1, .bool (decide ((lim (a ^ n)).length ≤ 1024))])) := by
  have hp1 : (lim (a ^ n)).length ≤ 1024 → powR a n = (a ^ n, 0) := fun h => by unfold powR; rw [if_pos h]
  have hp2 : ¬ (lim (a ^ n)).length ≤ 1024 → powR a n = (0, 2) := fun h => by unfold powR; rw [if_neg h]
  refine Znr Tryz.func178 Tryz.ntmps178 Tryz.results178 ?_;refine zzs ?_; refine zza ?_; refine zza ?_; refine AOps.nil (ARun.seq (ARun.seq ?_));refine Zny (S := Bool) (fun t : Bool => [(8, .any), (9, .any), (10, .any), (11, .any), (12, .any), (13, .any), (14, .bool t)]) (fun t : Bool => t = decide (n = 0 ∨ a = 1)) (fun run => ?_) ?_
  · skip
    refine gn ?_;refine Za rfl (Zb9 (b := decide (n = 0)) rfl rfl rfl (by rw [Bool.eq_iff_iff, beq_iff_eq, decide_eq_true_iff]; omega)) ?_;refine Zr ?_;refine AOps.bool 10 rfl (fun c1 => ?_) (fun c1 => ?_)
    · skip
      have c1 := Zh c1;refine Zg ?_; refine Zg ?_; refine Zg ?_; refine ZK ?_; refine AOps.nil ?_;exact ARun.ag (run (true) ((decide_eq_true (.inl c1)).symm))
    have c1 := Zj c1;refine Zr ?_;refine Za rfl (Zd rfl rfl rfl rfl rfl rfl rfl rfl rfl rfl rfl (by decide) (by decide) rfl) ?_;refine Zc rfl rfl (r_same1 a) ?_;refine ZK ?_; refine AOps.nil ?_;exact ARun.ag (run (decide (a = 1)) (decide_eq_decide.2 ⟨fun h => .inr h, fun h => h.resolve_left c1⟩))
  rintro t hj
  try dsimp only at hj ⊢
  subst hj;refine Znp rfl (fun h => ?_) (fun h => ?_)
  · skip
    have hp : a ^ n = 1 := by
      rcases h with rfl | rfl
      · exact Nat.pow_zero a
      exact Nat.one_pow n
    have hf : (lim (a ^ n)).length ≤ 1024 := by rw [hp]; exact one_fit
    refine gn ?_;refine Za rfl (Znq (Zd rfl rfl rfl rfl rfl rfl rfl rfl rfl rfl rfl (by decide) (by decide) rfl) ZO) ?_;refine go ?_;refine ZnA ?_;rw [hp1 hf, decide_eq_true hf, hp]; try rfl
  refine gn ?_;refine Za rfl (Zb9 (b := decide (a = 0)) rfl rfl rfl ZjZ) ?_;refine AOps.nil ?_;refine Znp rfl (fun h0 => ?_) (fun h0 => ?_)
  · skip
    have hp : a ^ n = 0 := by subst h0; exact Nat.zero_pow (by omega)
    have hf : (lim (a ^ n)).length ≤ 1024 := by rw [hp, ZA]; decide
    refine go ?_;refine ZnA ?_;rw [hp1 hf, decide_eq_true hf, hp, h0]; try rfl
  refine gn ?_;refine Za rfl (Znq (Zd rfl rfl rfl rfl rfl rfl rfl rfl rfl rfl rfl (by decide) (by decide) rfl) ZO) ?_;refine go ?_;refine Znw (S := Nat) (fun i : Nat => [(4, .any), (5, .any), (21, .any), (22, .any), (23, .any), (24, .any), (25, .any), (26, .any), (27, .any), (28, .any), (29, .any), (30, .any), (31, .any), (6, numD (a ^ i)), (7, .int .i64 (i : Int))]) (fun i : Nat => []) (fun i : Nat => i ≤ n ∧ (lim (a ^ i)).length ≤ 1024) (fun i : Nat => n - i) (0) ?_ ?_
  · exact ⟨Nat.zero_le _, by rw [Nat.pow_zero]; exact one_fit⟩
  rintro i hinv ih;obtain ⟨hi, hl⟩ := hinv;refine go ?_;refine Znp rfl (fun h2 => ?_) (fun h2 => ?_)
  · skip
    refine go ?_;refine Zc rfl rfl ((Zcx (a ^ i) a (by omega) (by omega)).mono fun o ho => by rw [ho, ← Nat.pow_succ]) ?_;refine go ?_;refine Zc rfl rfl (Zmp (lim (a ^ (i + 1)))) ?_;refine go ?_;refine ARun.cond rfl (fun h3 => ?_) (fun h3 => ?_)
    · skip
      have h3 : ¬ (lim (a ^ (i + 1))).length ≤ 1024 := by simpa using h3
      have hf : ¬ (lim (a ^ n)).length ≤ 1024 := fun h => h3 (Nat.le_trans (Zn (Nat.pow_le_pow_right (by omega) (by omega))) h)
      refine go ?_;refine ARun.ret ?_;refine ⟨_, _, _, .tmp rfl (.tmp rfl .nil), .cons .nil (.cons (.same _) .nil), rfl, ?_⟩;rw [hp2 hf, decide_eq_false hf, ZhY]; rfl
    have h3 : (lim (a ^ (i + 1))).length ≤ 1024 := by simpa using h3
    refine gn ?_;refine Za rfl (Zf rfl rfl (Zi (by omega))) ?_;refine go ?_;refine ARun.ag (ih ((i + 1)) ?_ ?_)
    · exact ⟨by omega, h3⟩
    omega
  obtain rfl : i = n := by omega
  refine ARun.exit rfl ?_;refine go ?_;refine ZnA ?_;rw [hp1 hl, decide_eq_true hl]; try rfl
theorem two_B {i k : Nat} (h : i < 32 * k) : 2 ^ i < B ^ k := by rw [B_pow2]; exact Nat.pow_lt_pow_right (by omega) h
theorem Zl5 (x a : Nat) (hx : 0 < x) (lx : (lim x).length ≤ 1024) (la : (lim a).length ≤ 1024) : PC C 177 [numD x, .int .i64 2, numD a] (fun o => o = .ret (.bool (decide (a < x * x)))) := by
  refine Znr Tryz.func177 Tryz.ntmps177 Tryz.results177 ?_;refine gn ?_;refine Za rfl (Znq (Zd rfl rfl rfl rfl rfl rfl rfl rfl rfl rfl rfl (by decide) (by decide) rfl) ZO) ?_;refine go ?_;refine Znw (S := Nat) (fun i : Nat => [(6, .any), (10, .any), (11, .any), (12, .any), (13, .any), (14, .any), (15, .any), (16, .any), (17, .any), (18, .any), (19, .any), (20, .any), (21, .any), (7, numD (x ^ i)), (8, .int .i64 (i : Int))]) (fun i : Nat => []) (fun i : Nat => i ≤ 2 ∧ (0 < i → x ^ i ≤ a) ∧ (lim (x ^ i)).length ≤ 1024 * i + 1) (fun i : Nat => 2 - i) (0) ?_ ?_
  · exact ⟨by omega, fun h => absurd h (by omega), by rw [Nat.pow_zero, Zbl]; decide⟩
  rintro i hinv ih;obtain ⟨i1, i2, i3⟩ := hinv;refine go ?_;refine Znp rfl (fun h => ?_) (fun h => ?_)
  · skip
    have hi : i < 2 := by omega
    have e : x ^ i * x = x ^ (i + 1) := (Nat.pow_succ ..).symm;have hl := Zco (x ^ i) x;have hm := Zcx (x ^ i) x (by omega) (by omega);rw [e] at hm hl;refine go ?_;refine Zc rfl rfl (hm) ?_;refine go ?_;refine Zc rfl rfl (ZeK (x ^ (i + 1)) a (by omega) (by omega)) ?_;refine go ?_;refine Znp rfl (fun c => ?_) (fun c => ?_)
    · skip
      have c1 : a < x ^ (i + 1) := by
        rcases Nat.lt_or_ge a (x ^ (i + 1)) with c1 | c1
        · exact c1
        exfalso
        unfold cmpI at c
        (repeat' split at c) <;> omega
      have c2 : x ^ (i + 1) ≤ x ^ 2 := Nat.pow_le_pow_right hx (by omega);rw [Nat.pow_two] at c2;refine go ?_;refine Zno ?_;rw [decide_eq_true (show a < x * x by omega)]; try rfl
    have c1 : x ^ (i + 1) ≤ a := by
      rcases Nat.lt_or_ge a (x ^ (i + 1)) with c1 | c1
      · exfalso; rw [Zfi c1] at c; omega
      exact c1
    refine gn ?_;refine Za rfl (Zf rfl rfl (Zi (by omega))) ?_;refine go ?_;refine ARun.ag (ih ((i + 1)) ?_ ?_)
    · exact ⟨by omega, fun _ => c1, by omega⟩
    omega
  have hi : i = 2 := by omega
  subst hi;have c2 := i2 (by omega);rw [Nat.pow_two] at c2;refine ARun.exit rfl ?_;refine go ?_;refine Zno ?_;rw [decide_eq_false (show ¬ a < x * x by omega)]; try rfl
theorem sq_end {a r : Nat} (h1 : r * r ≤ a) (h2 : a < (r + 2 ^ 0) * (r + 2 ^ 0)) : r = isq a := by
  rw [Nat.pow_zero] at h2;exact IsR.uniq ⟨h1, h2⟩ (Zfy a)
theorem sq_start (a : Nat) : a < (0 + 2 ^ (bl a / 2 + 1)) * (0 + 2 ^ (bl a / 2 + 1)) := by
  rw [Nat.zero_add, ← Nat.pow_add];exact Nat.lt_of_lt_of_le (Zby.1 (Nat.le_refl _)) (Nat.pow_le_pow_right (by omega) (by omega))
theorem ZmB (a : Nat) (ha : (lim a).length ≤ 900) (h4 : 4 ≤ a) : PC C 101 [numD a, .int .i64 2] (fun o => o = .ret (.agg [numD (isq a), numD (a - isq a * isq a)])) := by
  have hR := Zfy a
  have hb : 2 < bl a := by
    rcases Nat.lt_or_ge 2 (bl a) with h | h
    · exact h
    have := Zby.1 h; omega
  have hb2 := Zbk a;have hc1 := Zfi (show 1 < a by omega);refine Znr Tryz.func101 Tryz.ntmps101 Tryz.results101 ?_;refine gn ?_;refine Za rfl (Znq (Zd rfl rfl rfl rfl rfl rfl rfl rfl rfl rfl rfl (by decide) (by decide) rfl) ZO) ?_;refine Zc rfl rfl (ZeK a 1 (by omega) (by rw [Zbl]; decide)) ?_;refine go ?_;refine Znp rfl (fun h => ?_) (fun h => ?_)
  · skip
    exfalso
    omega
  refine go ?_;refine Zc rfl rfl (ZhD a (by omega)) ?_;refine go ?_;refine Znp rfl (fun h2 => ?_) (fun h2 => ?_)
  · skip
    exfalso
    omega
  refine go ?_;refine Zc rfl rfl (ZhD a (by omega)) ?_;refine Zr ?_;refine Za rfl (ZaQ rfl rfl (by omega) (r := ((bl a / 2 : Nat) : Int)) (Zay (n := 2) rfl (by omega))) ?_;refine go ?_;refine Znw (S := D × Int × Nat × Nat) (fun σ : D × Int × Nat × Nat => [(7, .any), (29, .any), (30, .any), (31, .any), (32, .any), (33, .any), (34, .any), (35, .any), (36, .any), (37, .any), (38, .any), (39, .any), (40, .any), (41, .any), (42, .any), (43, .any), (5, σ.1), (6, .int .i64 σ.2.1)]) (fun σ : D × Int × Nat × Nat => [some ⟨[.nilsl, .nilsl], Zx, 1, true, none⟩]) (fun σ : D × Int × Nat × Nat => (σ.1 = .nilsl ∧ σ.2.2.2 = 0 ∨ σ.1 = numD σ.2.2.2) ∧ σ.2.1 = (σ.2.2.1 : Int) - 1 ∧ σ.2.2.1 ≤ bl a / 2 + 1 ∧ σ.2.2.2 * σ.2.2.2 ≤ a ∧ a < (σ.2.2.2 + 2 ^ σ.2.2.1) * (σ.2.2.2 + 2 ^ σ.2.2.1)) (fun σ : D × Int × Nat × Nat => σ.2.2.1) ((.nilsl, ((bl a / 2 : Nat) : Int), bl a / 2 + 1, 0)) ?_ ?_
  · exact ⟨.inl ⟨rfl, rfl⟩, by dsimp only; omega, Nat.le_refl _, Nat.zero_le _, sq_start a⟩
  rintro ⟨z, v, j, r⟩ hinv ih;dsimp only at hinv ih ⊢;obtain ⟨i1, iv, i2, i3, i4⟩ := hinv
  have hra : r ≤ a := by
    rcases Nat.eq_zero_or_pos r with h0 | h0
    · omega
    exact Nat.le_trans (Nat.le_mul_of_pos_left _ h0) i3
  have lr := Nat.le_trans (Zn hra) ha;refine go ?_;refine Znp rfl (fun h3 => ?_) (fun h3 => ?_)
  · skip
    have hj0 : 0 < j := by omega
    obtain ⟨i, rfl⟩ : ∃ i, j = i + 1 := ⟨j - 1, by omega⟩
    obtain rfl : v = (i : Int) := by omega
    have hS : PC C 167 [numD 1, .int .i64 (i : Int)] (fun o => o = .ret (numD (2 ^ i))) := by
      have := Zlh 1 i (by rw [Zbl]; decide) (by omega)
      rwa [Nat.one_mul] at this
    have l2 : (lim (2 ^ i)).length ≤ 901 := by
      refine Zgu (k := 901) ?_;exact @two_B i 901 (by omega)
    have lx := Zev r (2 ^ i)
    have hx0 : 0 < r + 2 ^ i := by have := Nat.pow_pos (n := i) (show 0 < 2 by omega); omega
    have e2 : r + 2 ^ (i + 1) = r + 2 ^ i + 2 ^ i := by rw [Nat.pow_succ]; omega
    rw [e2] at i4;have hAb := Zl5 (r + 2 ^ i) a hx0 (by omega) (by omega);have hAdd := Zfz r (2 ^ i) (by omega) (by omega)
    rcases i1 with ⟨rfl, rfl⟩ | rfl
    · skip
      refine gn ?_;refine Za rfl (Znq (Zd rfl rfl rfl rfl rfl rfl rfl rfl rfl rfl rfl (by decide) (by decide) rfl) ZO) ?_;refine Zr ?_;refine Zc rfl rfl (hS) ?_;refine Za rfl (ZgU rfl rfl (.cons ZfT (.cons (.same _) .nil)) hAdd) ?_;refine go ?_;refine Zc rfl rfl (hAb) ?_;refine go ?_;refine ARun.cond rfl (fun h5 => ?_) (fun h5 => ?_)
      · skip
        have h5 : ¬ a < (0 + 2 ^ i) * (0 + 2 ^ i) := by simpa using h5
        refine gn ?_;refine Za rfl (Zk rfl rfl (r := (i : Int) - 1) (IntWalk.i64_in _ (by omega))) ?_;refine go ?_;refine ARun.ag (ih ((numD (0 + 2 ^ i), (i : Int) - 1, i, 0 + 2 ^ i)) ?_ ?_)
        · exact ⟨.inr rfl, rfl, (by dsimp only; omega), Nat.le_of_not_lt h5, i4⟩
        exact Nat.lt_succ_self i
      have h5 : a < (0 + 2 ^ i) * (0 + 2 ^ i) := by simpa using h5
      refine gn ?_;refine Za rfl (Zk rfl rfl (r := (i : Int) - 1) (IntWalk.i64_in _ (by omega))) ?_;refine go ?_;refine ARun.ag (ih ((.nilsl, (i : Int) - 1, i, 0)) ?_ ?_)
      · exact ⟨.inl ⟨rfl, rfl⟩, rfl, (by dsimp only; omega), i3, h5⟩
      exact Nat.lt_succ_self i
    refine gn ?_;refine Za rfl (Znq (Zd rfl rfl rfl rfl rfl rfl rfl rfl rfl rfl rfl (by decide) (by decide) rfl) ZO) ?_;refine Zr ?_;refine Zc rfl rfl (hS) ?_;refine Zc rfl rfl (hAdd) ?_;refine go ?_;refine Zc rfl rfl (hAb) ?_;refine go ?_;refine ARun.cond rfl (fun h5 => ?_) (fun h5 => ?_)
    · skip
      have h5 : ¬ a < (r + 2 ^ i) * (r + 2 ^ i) := by simpa using h5
      refine gn ?_;refine Za rfl (Zk rfl rfl (r := (i : Int) - 1) (IntWalk.i64_in _ (by omega))) ?_;refine go ?_;refine ARun.ag (ih ((numD (r + 2 ^ i), (i : Int) - 1, i, r + 2 ^ i)) ?_ ?_)
      · exact ⟨.inr rfl, rfl, (by dsimp only; omega), Nat.le_of_not_lt h5, i4⟩
      exact Nat.lt_succ_self i
    have h5 : a < (r + 2 ^ i) * (r + 2 ^ i) := by simpa using h5
    refine gn ?_;refine Za rfl (Zk rfl rfl (r := (i : Int) - 1) (IntWalk.i64_in _ (by omega))) ?_;refine go ?_;refine ARun.ag (ih ((numD r, (i : Int) - 1, i, r)) ?_ ?_)
    · exact ⟨.inr rfl, rfl, (by dsimp only; omega), i3, h5⟩
    exact Nat.lt_succ_self i
  have hj0 : j = 0 := by omega
  subst hj0;have hrs := sq_end i3 i4
  rcases i1 with ⟨rfl, h0⟩ | rfl
  · exfalso
    rw [h0] at hrs;have := hR.2;rw [← hrs] at this;omega
  rw [← hrs] at hR ⊢
  have l2 : (lim (r ^ 2)).length ≤ 1024 := by rw [Nat.pow_two]; exact Nat.le_trans (Zn i3) (by omega)
  have hP := Zm6 r 2 (by omega) (by omega);rw [show powR r 2 = (r ^ 2, 0) from by unfold powR; rw [if_pos l2], Nat.pow_two] at hP;refine ARun.exit rfl ?_;refine go ?_;refine Zc rfl rfl (hP) ?_;refine go ?_;refine Zc rfl rfl (ZeL a (r * r) (by omega) i3) ?_;refine go ?_;refine Zns ?_;rfl
theorem ZgW (e : Int) (h : -1000000 ≤ e ∧ e ≤ 1000000) : PC C 100 [.int .i64 e] (fun o => o = .ret (.int .i64 (e / 2))) := by
  refine Znr Tryz.func100 Tryz.ntmps100 Tryz.results100 ?_;refine go ?_;refine Znp rfl (fun h1 => ?_) (fun h1 => ?_)
  · skip
    refine gn ?_;refine Za rfl (Zk rfl rfl (IntWalk.i64_in _ (by omega))) ?_;refine Za rfl (ZaQ rfl rfl (by decide) (r := (1 - e) / 2) (by rw [Int.tdiv_eq_ediv_of_nonneg (by omega), IntWalk.i64_in _ (by omega)])) ?_;refine Za rfl (Zk rfl rfl (r := e / 2) (by rw [IntWalk.i64_in _ (by omega)]; omega)) ?_;refine go ?_;refine Zno ?_;rfl
  refine gn ?_;refine Za rfl (ZaQ rfl rfl (by decide) (r := e / 2) (by rw [Int.tdiv_eq_ediv_of_nonneg (by omega), IntWalk.i64_in _ (by omega)])) ?_;refine go ?_;refine Zno ?_;rfl
theorem isZD_m {d : Dt} {m : Nat} (h : isZD d = true) (hm : d.coef = lim m) : m = 0 := by
  unfold isZD at h;rw [hm, lenz] at h;simp at h; exact h.2
theorem Zl6 (a : Dt) (dir : Int) (ha : U32 a.coef) : PC C 29 [dtD a, .int .i64 dir] (fun o => o = .ret (ZfZ (ZR a [a] dir (ZcD a.fmt a)).1 (ZR a [a] dir (ZcD a.fmt a)).2)) := by
  have hu : ∀ d ∈ [a], U32 d.coef := fun d hd => by rw [List.mem_singleton.1 hd]; exact ha
  have hC := Zbs a [] 1 dir rfl hu;have hN := Zc9 [a] 1 rfl;obtain ⟨R, hR⟩ : ∃ R, R = ZR a [a] dir (ZcD a.fmt a) := ⟨_, rfl⟩;rw [← hR];refine Znr Tryz.func29 Tryz.ntmps29 Tryz.results29 ?_;refine go ?_;refine zzb ?_;refine go ?_;refine Za rfl (Zd rfl rfl rfl rfl rfl rfl rfl rfl rfl rfl rfl (by decide) (by decide) rfl) ?_;refine go ?_;refine Zc rfl rfl (hC) ?_;refine go ?_;refine ARun.cond rfl (fun h0 => ?_) (fun h0 => ?_)
  · skip
    have h0 : ¬ chkL a [a] dir = 0 := by simpa using h0
    refine go ?_;refine ARun.ret ?_;refine ⟨_, _, _, Znt rfl rfl rfl rfl rfl rfl .nil, .cons (Zgi _) .nil, rfl, ?_⟩;rw [hR, Zf5 h0]; rfl
  have h0 : chkL a [a] dir = 0 := by simpa using h0
  have hdr := (Zbn h0).1;obtain ⟨hf, hok, m, hm⟩ := ZiJ ha h0;have hp := ZW a.fmt;have hea := ZdT hok;refine go ?_;refine Zc rfl rfl (hN) ?_;refine ga ?_;refine ZI rfl rfl rfl rfl rfl rfl rfl rfl rfl rfl rfl ?_;refine go ?_;refine ARun.cond rfl (fun h1 => ?_) (fun h1 => ?_)
  · skip
    obtain ⟨r, hr⟩ := Option.isSome_iff_exists.1 h1;rw [hr];refine go ?_;refine Zc rfl rfl (Zv r) ?_;refine go ?_;refine Zns ?_;rw [hR, Zf6 h0 hr]; try rfl
  have h1 : nanO [a] = none := by simpa using h1
  rw [h1];refine go ?_;refine Zc rfl rfl (ZbK a) ?_;refine go ?_;refine ARun.cond rfl (fun h2 => ?_) (fun h2 => ?_)
  · skip
    have hm0 := isZD_m h2 hm.co;subst hm0;refine ARun.seq ?_;refine zdr 10 mixC ?_;refine .op rfl (Ze rfl rfl rfl rfl rfl) ?_;refine .op rfl (Zb rfl rfl (ZdO a 0 hm.co)) ?_;refine gd ?_;refine .op rfl (Zb rfl rfl (ZgW a.exp (by omega))) ?_;refine .op rfl (Zb rfl rfl (Zbr ⟨a.neg, 0, a.exp, false⟩ a.fmt dir (a.exp / 2) hdr (fun h => by cases h) (@Nat.pow_pos 10 3000 (by omega)) (by dsimp only; omega) (by omega))) ?_;refine .op rfl (Zb rfl rfl (Zv (RS a.fmt a.neg dir (a.exp / 2) (nmOf 0 a.exp false)))) ?_;refine .nil (fun hG => ?_);refine go ?_;refine Zns ?_;rw [hR, Zgk h0 h1 (by unfold ZcD; rw [if_pos h2]), ocR_0, ZcF rfl]; try rfl
  have h2 : ¬ isZD a = true := by rw [h2]; decide
  refine go ?_;refine ARun.cond rfl (fun h3 => ?_) (fun h3 => ?_)
  · skip
    refine go ?_;refine Zc rfl rfl (ZaY a.fmt) ?_;refine Zc rfl rfl (Zv ⟨⟨a.fmt, 3, false, [], 0⟩, 1⟩) ?_;refine go ?_;refine Zns ?_;rw [hR, Zep h0 h1 (by unfold ZcD; rw [if_neg h2, if_pos h3])]; try rfl
  have h3 : ¬ a.neg = true := by rw [h3]; decide
  refine go ?_;refine ARun.cond rfl (fun h4 => ?_) (fun h4 => ?_)
  · skip
    have h4 : a.cls = 2 := by simpa using h4
    refine go ?_;refine Zc rfl rfl (Zbx a.fmt false) ?_;refine Zc rfl rfl (Zv ⟨infD a.fmt false, 0⟩) ?_;refine go ?_;refine Zns ?_;rw [hR, Zdk h0 h1 (by unfold ZcD; rw [if_neg h2, if_neg h3, if_pos h4])]; try rfl
  have h4 : ¬ a.cls = 2 := by simpa using h4
  have hm0 : 0 < m := by
    have hc := Zc4 hok (by have h9 := (Zf1 h1).1; simp at h9; simpa using h9) h4
    have h6 : m ≠ 0 := fun h0 => h2 (by unfold isZD; rw [hc, hm.co, lenz, h0]; rfl)
    omega
  have hsk := sqK_le a.fmt a.exp;have hmc := hm.co;have hlt := hm.lt;refine gn ?_;refine Za rfl (Zk rfl rfl (r := a.exp - ((80 : Nat) : Int)) (IntWalk.i64_in _ (by omega))) ?_;refine Za rfl (Zdt rfl rfl (by decide) rfl) ?_;refine zzi ?_; refine AOps.nil ?_;refine Zny (S := Nat) (fun k : Nat => [(64, .any), (65, .any), (9, .int .i64 (k : Int))]) (fun k : Nat => 80 ≤ k ∧ k ≤ 81 ∧ (a.exp - (k : Int)) % 2 = 0) (fun run => ?_) ?_
  · skip
    refine ARun.cond rfl (fun h6 => ?_) (fun h6 => ?_)
    · skip
      rw [tm2] at h6;have h6 := Zh h6;refine gn ?_;refine Za rfl (Zf rfl rfl (r := ((81 : Nat) : Int)) (by rw [IntWalk.i64_in _ (by omega)]; omega)) ?_;refine zza ?_; refine AOps.nil ?_;exact ARun.ag (run (81) (⟨by omega, by omega, by omega⟩))
    rw [tm2] at h6;have h6 := Classical.not_not.1 (Zj h6);refine ARun.skip ?_;exact ARun.ag (run (80) (⟨by omega, by omega, by omega⟩))
  rintro k hj
  try dsimp only at hj ⊢
  obtain ⟨k1, k2, k3⟩ := hj;have hv : m * 10 ^ k < 10 ^ 150 := Zak hlt (by omega);have lv := fitW hv (by omega)
  have lv9 : (lim (m * 10 ^ k)).length ≤ 900 := by
    refine Zgu (k := 900) (Nat.lt_of_lt_of_le hv ?_);exact @ten_B 150 50 900 (by omega) (by omega)
  have hv4 : 4 ≤ m * 10 ^ k := by
    have e1 : 10 ^ 1 ≤ 10 ^ k := Nat.pow_le_pow_right (by omega) (by omega);have e2 := Nat.le_mul_of_pos_left (10 ^ k) hm0;rw [Nat.pow_one] at e1; omega
  have hval : ZR a [a] dir (ZcD a.fmt a) = (RS a.fmt false dir (a.exp / 2) (nmOf (isq (m * 10 ^ k)) ((a.exp - k) / 2) (decide (m * 10 ^ k ≠ isq (m * 10 ^ k) * isq (m * 10 ^ k)))), 0) := by
    rw [Zgk h0 h1 (by unfold ZcD; rw [if_neg h2, if_neg h3, if_neg h4]), hmc, Zl, RS_sq hm0 hsk.2.1 (show sqK a.fmt a.exp ≤ k by omega) hsk.2.2 k3]
  rw [hval] at hR
  have hMl : PC C 92 [sln .u32 a.coef, numD (10 ^ k)] (fun o => o = .ret (numD (m * 10 ^ k))) := by rw [hmc]; exact Zcx m (10 ^ k) (by have := fitW hlt (show fP a.fmt ≤ 9800 by omega); omega) (by have := fitT (n := k) (by omega); omega)
  have hRt := ZmB (m * 10 ^ k) lv9 hv4;have hsm := sq_more (f := a.fmt) (m := m) (k := k) hm0 (by omega);have hIs := Zfy (m * 10 ^ k);have hsf := isq_fit (v := m * 10 ^ k) (k := 75) hv;generalize isq (m * 10 ^ k) = s at *;have hdv : (a.exp - (k : Int)).tdiv 2 = (a.exp - (k : Int)) / 2 := Int.tdiv_eq_ediv_of_dvd (by omega)
  have hE : -60000 ≤ (a.exp - (k : Int)) / 2 ∧ (a.exp - (k : Int)) / 2 ≤ 60000 := by omega
  have hms : decide ((((lim (m * 10 ^ k - s * s)).length : Nat) : Int) > 0) = decide (m * 10 ^ k ≠ s * s) := by
    rw [lenpos];have := hIs.1;exact decide_eq_decide.2 (by omega)
  generalize m * 10 ^ k = v at *;refine ARun.seq ?_;refine ZnF (n := 8) (fun S : Nat → Bool => _) [(6, 10, 117, [.nilsl, .nilsl], some (7, [numD s, numD (v - s * s)]))] (fun _ => False) (sk := [(6, some 7)]) mixC rfl rfl (by kernel_rfl) rfl (by kernel_rfl) rfl rfl (fun _ _ _ h => h.elim) ?_;refine DChG.op rfl (fun _ => Zb7 rfl rfl rfl (by decide)) (fun _ => rfl) rfl rfl ?_;refine DChG.op rfl (fun _ => ZP rfl rfl rfl rfl) (fun _ => rfl) rfl rfl ?_;refine DChG.op rfl (fun _ => ZaH rfl) (fun _ => rfl) rfl rfl ?_;refine DChG.op rfl (fun _ => Zb rfl rfl (ZbS k (by omega))) (fun _ => rfl) rfl rfl ?_;refine DChG.op rfl (fun _ => Zb rfl rfl (hMl)) (fun _ => rfl) rfl rfl ?_;refine DChG.op rfl (fun _ => Zb rfl rfl (hRt)) (fun _ => rfl) rfl rfl ?_;refine .al rfl rfl rfl rfl (fun _ => rfl) rfl rfl rfl ?_;refine .sp (j := 6) rfl rfl rfl rfl rfl rfl rfl (fun _ => rfl) rfl rfl rfl (by kernel_rfl) ?_;refine .nil (fun hG => ZnH (as' := [(6, 10, 117, [numD s, numD (v - s * s)])]) rfl ?_);refine gn ?_;refine Za rfl (Zk rfl rfl (IntWalk.i64_in _ (by omega))) ?_;refine Za rfl (ZaQ rfl rfl (by decide) (r := (a.exp - (k : Int)) / 2) (by rw [hdv, IntWalk.i64_in _ (by omega)])) ?_;refine gn ?_;refine Za rfl (Zb9 (b := decide (v ≠ s * s)) rfl rfl rfl hms) ?_;refine zzB ?_;refine ZI rfl rfl rfl rfl rfl rfl rfl rfl rfl rfl rfl ?_;refine go ?_;refine zdr 9 mixC ?_;refine .op rfl (Ze rfl rfl rfl rfl rfl) ?_;refine gd ?_;refine .op rfl (Zb rfl rfl (ZgW a.exp (by omega))) ?_;refine .op rfl (Zb rfl rfl (Zbr ⟨false, s, (a.exp - (k : Int)) / 2, decide (v ≠ s * s)⟩ a.fmt dir (a.exp / 2) hdr (fun _ => hsm) (@ZG _ _ 3000 hsf (by omega)) (by dsimp only; omega) (by omega))) ?_;refine .op rfl (Zb rfl rfl (Zv (RS a.fmt false dir (a.exp / 2) (nmOf s ((a.exp - (k : Int)) / 2) (decide (v ≠ s * s)))))) ?_;refine .nil (fun hG => ?_);refine go ?_;refine Zns ?_;rw [hR]; try rfl
theorem light1 {a : Dt} (h : ZcM [a] = true) : a.coef.length ≤ 35184372088832 := by
  unfold ZcM at h;simp at h;omega
theorem Zis (a : Dt) (dir : Int) (ha : U32 a.coef) : PC Cd 5 [dtD a, .int .i64 dir] (fun o => o = .ret (.bool true)) := by
  refine Znr Tryz.func5 Tryz.ntmps5 Tryz.results5 ?_;refine go ?_;refine zzb ?_;refine go ?_;refine Za rfl (Zd rfl rfl rfl rfl rfl rfl rfl rfl rfl rfl rfl (by decide) (by decide) rfl) ?_;refine Zc rfl rfl (PC.gl (Zdp [a] 1 rfl)) ?_;refine go ?_;refine ARun.cond rfl (fun h => ?_) (fun h => ?_)
  · skip
    refine go ?_;refine Zc rfl rfl (ZaA) ?_;refine go ?_;refine Zno ?_;rfl
  have h : ZcM [a] = true := by simpa using h
  have h1 := light1 h;refine go ?_;refine Zc rfl rfl (Zi8 a dir ⟨ha, h1⟩) ?_;refine go ?_;refine zdr 9 mixC ?_;refine .op rfl (Zp rfl rfl rfl rfl rfl rfl) ?_;refine zdm ?_;refine .op rfl (Ze rfl rfl rfl rfl rfl) ?_;refine zdm ?_;refine .op rfl (Zb rfl rfl (PC.gl (Zl6 a dir ha))) ?_;refine .op rfl (Zb rfl rfl (is_ok (ZR a [a] dir (ZcD a.fmt a)).1 (ZR a [a] dir (ZcD a.fmt a)).2)) ?_;refine zdm ?_;refine .op rfl (Zb rfl rfl (ZaA)) ?_;refine .op rfl (Zaw rfl rfl rfl rfl) ?_;refine .nil (fun hG => ?_);refine go ?_;refine Zno ?_;rfl
def nearB (a b : Dt) : Bool := !okD a || !okD b || (decide (IntKind.i64.wrap (a.exp - b.exp) ≤ 700) && decide (IntKind.i64.wrap (b.exp - a.exp) ≤ 700))
theorem Zl7 (a b : Dt) (ha : U32 a.coef) (hb : U32 b.coef) : PC C 30 [dtD a, dtD b] (fun o => o = .ret (.bool (nearB a b))) := by
  refine Znr Tryz.func30 Tryz.ntmps30 Tryz.results30 ?_;refine go ?_;refine zzb ?_; refine zzb ?_;refine go ?_;refine Zc rfl rfl (ZfD a ha) ?_;refine zzn ?_; refine Zr ?_;apply ZnB 8 (fun sj1 => [(8, .any), (9, .any), (10, .any), (11, .any), (12, .bool sj1)]) rfl
  · intro hj1 run1
    try replace hj1 := Zh hj1
    refine Zg ?_; refine Zg ?_; refine Zg ?_; refine ZK ?_;exact AOps.ag run1
  · intro hj1 run1
    try replace hj1 := Zj hj1
    refine zzL ?_;refine Zc rfl rfl (ZfD b hb) ?_;refine zzn ?_; refine ZK ?_;exact AOps.ag run1
  refine Zr ?_;apply ZnB 13 (fun sj2 => [(13, .any), (14, .any), (15, .any), (16, .any), (17, .any), (18, .any), (19, .any), (20, .any), (21, .any), (22, .any), (23, .any), (24, .any), (25, .any), (26, .any), (27, .any), (28, .bool sj2)]) rfl
  · intro hj2 run2
    try replace hj2 := Zh hj2
    refine Zg ?_; refine Zg ?_; refine Zg ?_; refine Zg ?_; refine Zg ?_; refine Zg ?_; refine Zg ?_; refine Zg ?_; refine Zg ?_; refine Zg ?_; refine Zg ?_; refine Zg ?_; refine Zg ?_; refine Zg ?_; refine ZK ?_;exact AOps.ag run2
  · intro hj2 run2
    try replace hj2 := Zj hj2
    refine gn ?_;refine Za rfl (Zk rfl rfl rfl) ?_;refine zzi ?_; refine Zr ?_;apply Znu 20 (fun sj3 => [(20, .any), (21, .any), (22, .any), (23, .any), (24, .any), (25, .any), (26, .any), (27, .bool sj3)]) rfl
    · intro hj3 run3
      try replace hj3 := Zh hj3
      refine gn ?_;refine Za rfl (Zk rfl rfl rfl) ?_;refine zzi ?_; refine ZK ?_;exact AOps.ag run3
    · intro hj3 run3
      try replace hj3 := Zj hj3
      refine Zg ?_; refine Zg ?_; refine Zg ?_; refine Zg ?_; refine Zg ?_; refine Zg ?_; refine ZK ?_;exact AOps.ag run3
    refine ZK ?_;exact AOps.ag run2
  refine go ?_;refine Zno ?_;rfl
theorem near_of {a b : Dt} (h : nearB a b = true) (ha : okD a = true) (hb : okD b = true) : a.exp - b.exp ≤ 700 ∧ b.exp - a.exp ≤ 700 := by
  have h1 := ZdT ha;have h2 := ZdT hb;unfold nearB at h;rw [ha, hb, IntWalk.i64_in _ (by omega), IntWalk.i64_in _ (by omega)] at h
  simpa using h
theorem leftB_eq {x y : Nat} (hy : 0 < y) : ZbR x y = decide (y < x % y + x % y ∨ (x % y + x % y = y ∧ x / y % 2 = 1)) := by
  have := Nat.mod_lt x hy;unfold ZbR;exact decide_eq_decide.2 (by omega)
theorem ZmC (a b : Dt) (ha : U32 a.coef) (hb : U32 b.coef) (hnear : nearB a b = true) : PC C 32 [dtD a, dtD b] (fun o => o = .ret (ZfZ (ZR a [a, b] 1 (remO a.fmt a b)).1 (ZR a [a, b] 1 (remO a.fmt a b)).2)) := by
  have hu : ∀ d ∈ [a, b], U32 d.coef := fun d hd => by
    simp only [List.mem_cons, List.not_mem_nil, or_false] at hd
    rcases hd with rfl | rfl <;> assumption
  have hC := Zbs a [b] 2 1 rfl hu;have hN := Zc9 [a, b] 2 rfl;obtain ⟨R, hR⟩ : ∃ R, R = ZR a [a, b] 1 (remO a.fmt a b) := ⟨_, rfl⟩;rw [← hR];refine Znr Tryz.func32 Tryz.ntmps32 Tryz.results32 ?_;refine go ?_;refine zzb ?_; refine zzb ?_;refine go ?_;refine Za rfl (Zd rfl rfl rfl rfl rfl rfl rfl rfl rfl rfl rfl (by decide) (by decide) rfl) ?_;refine go ?_;refine Zc rfl rfl (hC) ?_;refine go ?_;refine ARun.cond rfl (fun h0 => ?_) (fun h0 => ?_)
  · skip
    have h0 : ¬ chkL a [a, b] 1 = 0 := by simpa using h0
    refine go ?_;refine ARun.ret ?_;refine ⟨_, _, _, Znt rfl rfl rfl rfl rfl rfl .nil, .cons (Zgi _) .nil, rfl, ?_⟩;rw [hR, Zf5 h0]; rfl
  have h0 : chkL a [a, b] 1 = 0 := by simpa using h0
  obtain ⟨hdr, hall, hfm⟩ := Zbn h0;simp only [List.all_cons, List.all_nil, Bool.and_true, Bool.and_eq_true, decide_eq_true_eq] at hall hfm;obtain ⟨m, hm⟩ := ZbW ha hall.1;obtain ⟨n, hn⟩ := ZbW hb hall.2;rw [hfm.2] at hn;have hp := ZW a.fmt;have hea := ZdT hall.1;have heb := ZdT hall.2;have hnr := near_of hnear hall.1 hall.2;refine go ?_;refine Zc rfl rfl (hN) ?_;refine ga ?_;refine ZI rfl rfl rfl rfl rfl rfl rfl rfl rfl rfl rfl ?_;refine go ?_;refine ARun.cond rfl (fun h1 => ?_) (fun h1 => ?_)
  · skip
    obtain ⟨r, hr⟩ := Option.isSome_iff_exists.1 h1;rw [hr];refine go ?_;refine Zc rfl rfl (Zv r) ?_;refine go ?_;refine Zns ?_;rw [hR, Zf6 h0 hr]; try rfl
  have h1 : nanO [a, b] = none := by simpa using h1
  rw [h1];refine zzs ?_; refine zzf ?_; refine zzl ?_; refine zzi ?_; refine Zr ?_;apply ZnB 37 (fun sj1 => [(37, .any), (38, .any), (39, .any), (40, .bool sj1)]) rfl
  · intro hj1 run1
    try replace hj1 := Zh hj1
    refine Zg ?_; refine Zg ?_; refine ZK ?_;exact AOps.ag run1
  · intro hj1 run1
    try replace hj1 := Zj hj1
    refine zzL ?_;refine Zc rfl rfl (ZbK b) ?_;refine ZK ?_;exact AOps.ag run1
  refine go ?_;refine ARun.cond rfl (fun h2 => ?_) (fun h2 => ?_)
  · skip
    have h2 : a.cls = 2 ∨ isZD b = true := by simpa using h2
    refine go ?_;refine Zc rfl rfl (ZaY a.fmt) ?_;refine Zc rfl rfl (Zv ⟨⟨a.fmt, 3, false, [], 0⟩, 1⟩) ?_;refine go ?_;refine Zns ?_;rw [hR, Zep h0 h1 (by unfold remO; rw [if_pos h2])]; try rfl
  have h2 : ¬ (a.cls = 2 ∨ isZD b = true) := by simpa using h2
  refine go ?_;refine ARun.cond rfl (fun h4 => ?_) (fun h4 => ?_)
  · skip
    have h4 : b.cls = 2 := by simpa using h4
    refine go ?_;refine Zc rfl rfl (Zv ⟨a, 0⟩) ?_;refine go ?_;refine Zns ?_;rw [hR, Zdk h0 h1 (by unfold remO; rw [if_neg h2, if_pos h4])]; try rfl
  have h4 : ¬ b.cls = 2 := by simpa using h4
  have hn0 : 0 < n := by
    have hc := Zc4 hall.2 (Zgj h0 h1).2.2.2.2 h4
    have h6 : n ≠ 0 := fun h0 => h2 (.inr (by unfold isZD; rw [hc, hn.co, lenz, h0]; rfl))
    omega
  have hmc := hm.co;have hnc := hn.co
  have hval : ZR a [a, b] 1 (remO a.fmt a b) = (remG a.fmt a b, 0) := by
    obtain ⟨x, hx1, hx2⟩ := rem_law hm hn hn0 h2 h4;rw [Zgk h0 h1 hx1, hx2]
  obtain ⟨kx, hkx⟩ : ∃ k : Nat, a.exp - min a.exp b.exp = (k : Int) := ⟨(a.exp - min a.exp b.exp).toNat, by omega⟩;obtain ⟨ky, hky⟩ : ∃ k : Nat, b.exp - min a.exp b.exp = (k : Int) := ⟨(b.exp - min a.exp b.exp).toNat, by omega⟩
  have hX : remX m n a.exp b.exp = (m * 10 ^ kx, n * 10 ^ ky) := by unfold remX; rw [hkx, hky, Int.toNat_natCast, Int.toNat_natCast]
  unfold remG at hval;rw [hmc, hnc, Zl, Zl, hX] at hval;dsimp only at hval;rw [hval] at hR;have hxl : m * 10 ^ kx < 10 ^ 800 := @Zak _ _ _ 800 hm.lt (by omega);have hyl : n * 10 ^ ky < 10 ^ 800 := @Zak _ _ _ 800 hn.lt (by omega);have lx := fitW hxl (by omega);have ly := fitW hyl (by omega);have hy0 : 0 < n * 10 ^ ky := Nat.mul_pos hn0 (Nat.pow_pos (by omega))
  have hMx : PC C 92 [sln .u32 a.coef, numD (10 ^ kx)] (fun o => o = .ret (numD (m * 10 ^ kx))) := by rw [hmc]; exact Zcx m (10 ^ kx) (by have := fitW hm.lt (show fP a.fmt ≤ 9800 by omega); omega) (by have := fitT (n := kx) (by omega); omega)
  have hMy : PC C 92 [sln .u32 b.coef, numD (10 ^ ky)] (fun o => o = .ret (numD (n * 10 ^ ky))) := by rw [hnc]; exact Zcx n (10 ^ ky) (by have := fitW hn.lt (show fP a.fmt ≤ 9800 by omega); omega) (by have := fitT (n := ky) (by omega); omega)
  have hMin : -50000 ≤ min a.exp b.exp ∧ min a.exp b.exp ≤ 50000 := by omega
  have hmin : min a.exp b.exp = min a.exp b.exp := rfl;generalize hME : min a.exp b.exp = me at hkx hky hR hMin;clear hval hX;generalize m * 10 ^ kx = X at *;generalize n * 10 ^ ky = Y at *;have hLB := leftB_eq (x := X) hy0;have hrl := Nat.mod_lt X hy0;have hq : X / Y = X / Y := rfl;have lq : (lim (X / Y)).length ≤ 1024 := Nat.le_trans (Zn (Nat.div_le_self _ _)) lx;have lr : (lim (X % Y)).length ≤ 1024 := Nat.le_trans (Zn (Nat.mod_le _ _)) lx;have hrr := Zev (X % Y) (X % Y);have hLR : ZbB X Y = if ZbR X Y then Y - X % Y else X % Y := rfl;have hLRl : ZbB X Y < 10 ^ 3000 := Nat.lt_of_le_of_lt (ZjE hy0) (@ZG _ _ 3000 hyl (by omega));refine gn ?_;refine Za rfl (Znq (Zgt rfl rfl) (congrArg (D.int .i64) hME)) ?_;refine go ?_;refine zdr 8 mixC ?_;refine zdf ?_;refine zdl ?_;refine zdf ?_;refine zdl ?_;refine zdm ?_;refine .op rfl (Znq (d' := .int .i64 (kx : Int)) (Zk rfl rfl (IntWalk.i64_in _ (by omega))) (congrArg (D.int .i64) hkx)) ?_;refine .op rfl (Zb rfl rfl (ZbS kx (by omega))) ?_;refine .op rfl (Zb rfl rfl (hMx)) ?_;refine .nil (fun hG => ?_);refine go ?_;refine zdr 8 mixC ?_;refine zdf ?_;refine zdl ?_;refine zdf ?_;refine zdl ?_;refine zdm ?_;refine .op rfl (Znq (d' := .int .i64 (ky : Int)) (Zk rfl rfl (IntWalk.i64_in _ (by omega))) (congrArg (D.int .i64) hky)) ?_;refine .op rfl (Zb rfl rfl (ZbS ky (by omega))) ?_;refine .op rfl (Zb rfl rfl (hMy)) ?_;refine .nil (fun hG => ?_);refine go ?_;refine Zc rfl rfl (Zi2 X Y (by omega) (by omega) hy0) ?_;refine ZI rfl rfl rfl rfl rfl rfl rfl rfl rfl rfl rfl ?_;refine go ?_;refine Zc rfl rfl (Zfz (X % Y) (X % Y) (by omega) (by omega)) ?_;refine Zr ?_;refine Zc rfl rfl (ZeK (X % Y + X % Y) Y (by omega) (by omega)) ?_;refine zza ?_; refine AOps.nil (ARun.seq (ARun.seq ?_));generalize X / Y = q at *;generalize X % Y = r at *;refine Zny (S := Bool) (fun o : Bool => [(89, .any), (90, .any), (91, .any), (92, .any), (93, .any), (94, .any), (95, .any), (96, .any), (97, .any), (98, .any), (99, .any), (100, .any), (101, .any), (102, .any), (103, .any), (104, .any), (105, .any), (106, .any), (107, .any), (108, .bool o)]) (fun o : Bool => o = ZbR X Y) (fun run => ?_) ?_
  · skip
    rcases Nat.lt_trichotomy Y (r + r) with hA | hA | hA
    · have hc := Zfi hA
      refine gn ?_;refine Za rfl (Znq (d' := .bool true) (Zaa rfl rfl rfl) (congrArg D.bool (decide_eq_true (by omega)))) ?_;refine Zr ?_; refine Zg ?_; refine Zg ?_; refine Zg ?_; refine Zg ?_; refine Zg ?_; refine Zg ?_; refine Zg ?_; refine Zg ?_; refine Zg ?_; refine Zg ?_; refine Zg ?_; refine Zg ?_; refine Zg ?_; refine Zg ?_; refine Zg ?_; refine Zg ?_; refine ZK ?_; refine AOps.nil ?_;exact ARun.ag (run (true) (by rw [hLB]; exact (decide_eq_true (.inl hA)).symm))
    · have hc := ZiG hA.symm
      rcases Nat.eq_zero_or_pos q with h6 | h6
      · skip
        refine gn ?_;refine Za rfl (Znq (d' := .bool false) (Zaa rfl rfl rfl) (congrArg D.bool (decide_eq_false (by omega)))) ?_;refine gn ?_;refine Za rfl (Znq (d' := .bool true) (Zaa rfl rfl rfl) (congrArg D.bool (decide_eq_true (by omega)))) ?_;refine gn ?_;refine Za rfl (Znq (d' := .bool false) (Zaa rfl rfl rfl) (congrArg D.bool (decide_eq_false (by rw [h6, Za9]; decide)))) ?_;refine ZK ?_; refine Zr ?_; refine Zg ?_; refine Zg ?_; refine Zg ?_; refine Zg ?_; refine Zg ?_; refine Zg ?_; refine ZK ?_; refine ZK ?_; refine AOps.nil ?_;exact ARun.ag (run (false) (by rw [hLB]; exact (decide_eq_false (by omega)).symm))
      obtain ⟨s, hs⟩ := ZeU h6;have hl : 0 < (lim q).length := ZB.2 (by omega);have hmq := ZjB q;refine gn ?_;refine Za rfl (Znq (d' := .bool false) (Zaa rfl rfl rfl) (congrArg D.bool (decide_eq_false (by omega)))) ?_;refine gn ?_;refine Za rfl (Znq (d' := .bool true) (Zaa rfl rfl rfl) (congrArg D.bool (decide_eq_true (by omega)))) ?_;refine gn ?_;refine Za rfl (Znq (d' := .bool true) (Zaa rfl rfl rfl) (congrArg D.bool (decide_eq_true (by omega)))) ?_;refine go ?_;refine Za rfl (Zm rfl rfl rfl rfl (by omega) (by omega) (by rw [hs]; simp) (by rw [hs])) ?_;refine zzl ?_;refine Za rfl (Zdt rfl rfl (by omega) (nrem (n := 2) rfl)) ?_;refine zzi ?_; refine ZK ?_; refine ZK ?_; refine AOps.nil ?_;exact ARun.ag (run (((((q % B % 2 : Nat) : Int) == 1))) (by rw [hLB]; exact (decide_eq_decide.2 (by omega) : decide ((((q % B % 2 : Nat) : Int) = 1)) = decide (Y < r + r ∨ (r + r = Y ∧ q % 2 = 1)))))
    have hc := Zhg hA;refine gn ?_;refine Za rfl (Znq (d' := .bool false) (Zaa rfl rfl rfl) (congrArg D.bool (decide_eq_false (by omega)))) ?_;refine gn ?_;refine Za rfl (Znq (d' := .bool false) (Zaa rfl rfl rfl) (congrArg D.bool (decide_eq_false (by omega)))) ?_;refine Zr ?_; refine Zg ?_; refine Zg ?_; refine Zg ?_; refine Zg ?_; refine ZK ?_; refine Zr ?_; refine Zg ?_; refine Zg ?_; refine Zg ?_; refine Zg ?_; refine Zg ?_; refine Zg ?_; refine ZK ?_; refine ZK ?_; refine AOps.nil ?_;exact ARun.ag (run (false) (by rw [hLB]; exact (decide_eq_false (by omega)).symm))
  rintro o hj
  try dsimp only at hj ⊢
  subst hj;refine ARun.cond rfl (fun h => ?_) (fun h => ?_)
  · skip
    have hL2 : ZbB X Y = Y - r := by rw [hLR, if_pos h]
    rw [h, hL2, Bool.bne_true] at hR;rw [hL2] at hLRl;refine zdr 9 mixC ?_;refine zdf ?_;refine zdl ?_;refine .op rfl (Zie rfl) ?_;refine gd ?_;refine .op rfl (Zb rfl rfl (ZeL Y r (by omega) (by omega))) ?_;refine zdm ?_;refine .op rfl (Zal rfl rfl rfl rfl rfl) ?_;refine .nil (fun hG => ?_);refine go ?_;refine Zc rfl rfl (Zbr ⟨!a.neg, Y - r, me, false⟩ a.fmt 1 me hdr (fun h => by cases h) hLRl (by dsimp only; omega) (by omega)) ?_;refine Zc rfl rfl (Zv (RS a.fmt (!a.neg) 1 me (nmOf (Y - r) me false))) ?_;refine go ?_;refine Zns ?_;rw [hR]; try rfl
  have hL2 : ZbB X Y = r := by rw [hLR, if_neg (by rw [h]; decide)]
  rw [h, hL2, Bool.bne_false] at hR;rw [hL2] at hLRl;refine go ?_;refine Zc rfl rfl (Zbr ⟨a.neg, r, me, false⟩ a.fmt 1 me hdr (fun h => by cases h) hLRl (by dsimp only; omega) (by omega)) ?_;refine Zc rfl rfl (Zv (RS a.fmt a.neg 1 me (nmOf r me false))) ?_;refine go ?_;refine Zns ?_;rw [hR]; try rfl
theorem Zit (a b : Dt) (ha : U32 a.coef) (hb : U32 b.coef) : PC Cd 6 [dtD a, dtD b] (fun o => o = .ret (.bool true)) := by
  refine Znr Tryz.func6 Tryz.ntmps6 Tryz.results6 ?_;refine go ?_;refine zzb ?_; refine zzb ?_;refine go ?_;refine Za rfl (Zd rfl rfl rfl rfl rfl rfl rfl rfl rfl rfl rfl (by decide) (by decide) rfl) ?_;refine Zc rfl rfl (PC.gl (Zdp [a, b] 2 rfl)) ?_;refine zzn ?_; refine Zr ?_;apply ZnB 12 (fun sj1 => [(12, .any), (13, .any), (14, .any), (15, .any), (16, .any), (17, .bool sj1)]) rfl
  · intro hj1 run1
    try replace hj1 := Zh hj1
    refine Zg ?_; refine Zg ?_; refine Zg ?_; refine Zg ?_; refine ZK ?_;exact AOps.ag run1
  · intro hj1 run1
    try replace hj1 := Zj hj1
    refine go ?_;refine Zc rfl rfl (PC.gl (Zl7 a b ha hb)) ?_;refine zzn ?_; refine ZK ?_;exact AOps.ag run1
  refine AOps.nil ?_;refine ARun.cond rfl (fun h => ?_) (fun h => ?_)
  · skip
    refine go ?_;refine Zc rfl rfl (ZaA) ?_;refine go ?_;refine Zno ?_;rfl
  have h : ZcM [a, b] = true ∧ nearB a b = true := by simpa using h
  obtain ⟨h1, h2⟩ := light2 h.1;refine go ?_;refine Zc rfl rfl (Zki a b ⟨ha, h1⟩ ⟨hb, h2⟩) ?_;refine go ?_;refine zdr 9 mixC ?_;refine .op rfl (Zp rfl rfl rfl rfl rfl rfl) ?_;refine zdm ?_;refine .op rfl (Ze rfl rfl rfl rfl rfl) ?_;refine .op rfl (Ze rfl rfl rfl rfl rfl) ?_;refine .op rfl (Zb rfl rfl (PC.gl (ZmC a b ha hb h.2))) ?_;refine .op rfl (Zb rfl rfl (is_ok (ZR a [a, b] 1 (remO a.fmt a b)).1 (ZR a [a, b] 1 (remO a.fmt a b)).2)) ?_;refine zdm ?_;refine .op rfl (Zb rfl rfl (ZaA)) ?_;refine .op rfl (Zaw rfl rfl rfl rfl) ?_;refine .nil (fun hG => ?_);refine go ?_;refine Zno ?_;rfl
end Go.V
