/- Rules for steps and contracts of functions, each proved; no condition. -/
import Derived.Test.YtaglofmanchabaaGreatDoorA06
import Derived.Recover
import Derived.Laws.BytesString
set_option linter.unusedVariables false
set_option linter.unusedSimpArgs false
set_option linter.unnecessarySimpa false
set_option maxHeartbeats 2000000
set_option synthInstance.maxHeartbeats 2000000
set_option synthInstance.maxSize 100000
namespace Go.V
open Go.RowKit Go.Proofs
theorem ZcR (hcmp : CmpOK) (a b : Nat) (ha : (lim a).length ≤ 274877906944) (hb : (lim b).length ≤ 274877906944) (hb0 : 0 < b) : PC C 236 [numD a, numD b] (fun o => o = .ret (.tup [numD (a / b), numD (a % b)])) := ZkE hcmp a b ha hb hb0
theorem ZmO (hcmp : CmpOK) (cut : Nat) (n : Nat) : 1 ≤ n → n ≤ 1073741824 → ∀ a d : Nat, (lim d).length = n → a < B ^ n * d → PC C 253 [numD a, numD d, .int .i64 (n : Int), .int .i64 (cut : Int)] (fun o => o = .ret (.tup [numD (a / d), numD (a % d)])) := by
  induction n using Nat.strongRecOn with
  | _ n rec =>
  intro hn hN a d hd ha;refine Znr Tryz.func253 Tryz.ntmps253 Tryz.results253 ?_;have hd0 : 0 < d := Nat.pos_of_ne_zero (ZB.1 (by omega))
  have hal : (lim a).length ≤ 2 * n := by
    rw [Z6];refine Nat.lt_of_lt_of_le ha ?_;rw [show 2 * n = n + n by omega, Nat.pow_add];exact Nat.mul_le_mul_left _ (Nat.le_of_lt (Z6.1 (Nat.le_of_eq hd)))
  refine gn ?_;refine Za rfl (Zdt rfl rfl (by omega) (nrem (n := 2) rfl)) ?_;refine zzi ?_; refine Zr ?_;refine AOps.bool 17 rfl (fun hb => ?_) (fun hb => ?_)
  · skip
    refine go ?_;refine Znz rfl ?_;refine go ?_;refine Zc rfl rfl (ZcR hcmp a d (by omega) (by omega) hd0) ?_;refine go ?_;refine ZnA ?_;rfl
  refine go ?_;refine Znp rfl (fun hc => ?_) (fun hc => ?_)
  · skip
    refine go ?_;refine Zc rfl rfl (ZcR hcmp a d (by omega) (by omega) hd0) ?_;refine go ?_;refine ZnA ?_;rfl
  have hev : ¬ ((n % 2 : Nat) : Int) = 1 := fun e => by rw [e] at hb; cases hb
  obtain ⟨h, rfl⟩ : ∃ h, n = 2 * h := ⟨n / 2, by omega⟩;have hX : 0 < B ^ h := Nat.pow_pos Zbj;have htl := ZfQ a h;have hml := ZhU a h
  have ha1 : a / B ^ h < B ^ h * d := by
    rw [Nat.div_lt_iff_lt_mul hX, Nat.mul_right_comm, ← Nat.pow_add, show h + h = 2 * h by omega];exact ha
  have hr1 := Nat.mod_lt (a / B ^ h) hd0
  have ha2 : a / B ^ h % d * B ^ h + a % B ^ h < B ^ h * d := by
    have h1 : (a / B ^ h % d + 1) * B ^ h ≤ d * B ^ h := Nat.mul_le_mul_right _ hr1;have h2 := Nat.mod_lt a hX;have h3 := Nat.mul_comm d (B ^ h);rw [Nat.add_mul, Nat.one_mul] at h1;omega
  have hrl : (lim (a / B ^ h % d)).length ≤ 2 * h := Nat.le_trans (Zn (Nat.le_of_lt hr1)) (Nat.le_of_eq hd);have hrb := Zco (a / B ^ h % d) (B ^ h);have hBl := ln_B h;have hul := Zn (Nat.div_le_self (a / B ^ h) d);have hub := Zco (a / B ^ h / d) (B ^ h);have hll := Nat.le_trans (Zn (Nat.div_le_self (a / B ^ h % d * B ^ h + a % B ^ h) d)) (Zev _ _);have th := Zmj hcmp cut h (by omega) (by omega) (fun a d h1 h2 => rec h (by omega) (by omega) (by omega) a d h1 h2);obtain ⟨e1, e2⟩ := two_steps (a := a) (d := d) (X := B ^ h) hd0;refine gn ?_;refine Za rfl (ZaQ rfl rfl (by omega) (r := (h : Nat)) ((Zay (n := 2) rfl (by omega)).trans (by rw [Nat.mul_div_cancel_left _ (by decide)]))) ?_;refine go ?_;refine Zc rfl rfl (Zbe a h (by omega)) ?_;refine go ?_;refine Zc rfl rfl (th (a / B ^ h) d hd ha1) ?_;refine gn ?_;refine Za rfl (ZaC rfl rfl (ZaD (m := 32) (by omega))) ?_;refine Zc rfl rfl (Ze1 _ h (by omega) (by omega)) ?_;refine go ?_;refine Zc rfl rfl (Zb4 a h (by omega)) ?_;refine Zc rfl rfl (ZaI _ _ (by omega) (by omega)) ?_;refine go ?_;refine Zc rfl rfl (th _ d hd ha2) ?_;refine gn ?_;refine Za rfl (ZaC rfl rfl (ZaD (m := 32) (by omega))) ?_;refine Zc rfl rfl (Ze1 _ h (by omega) (by omega)) ?_;refine Zr ?_;refine Zc rfl rfl (ZaI _ _ (by omega) (by omega)) ?_;refine go ?_;refine ZnA ?_;rw [e1, e2]
  try rfl
structure Hv (L n k : Nat) : Prop where
  lo : L ≤ n * 2 ^ k
  hi : n * 2 ^ k < L + 2 ^ k
  pw : 2 ^ k ≤ L
theorem Hv.init {L : Nat} (h : 1 ≤ L) : Hv L L 0 := ⟨by simp, by simp, by simpa using h⟩
theorem Hv.step {L n k : Nat} (h : Hv L n k) (hn : 4 ≤ n) : Hv L ((n + 1) / 2) (k + 1) := by
  obtain ⟨h1, h2, h3⟩ := h;have hp : 2 ^ (k + 1) = 2 ^ k * 2 := Nat.pow_succ ..;have h4 : n * 2 ^ k ≤ (n + 1) / 2 * 2 * 2 ^ k := Nat.mul_le_mul_right _ (by omega);have h5 : (n + 1) / 2 * 2 * 2 ^ k ≤ (n + 1) * 2 ^ k := Nat.mul_le_mul_right _ (by omega);have h6 : 4 * 2 ^ k ≤ n * 2 ^ k := Nat.mul_le_mul_right _ hn
  have e : (n + 1) / 2 * 2 ^ (k + 1) = (n + 1) / 2 * 2 * 2 ^ k := by rw [hp, Nat.mul_comm (2 ^ k), ← Nat.mul_assoc]
  rw [Nat.add_mul, Nat.one_mul] at h5
  refine ⟨?_, ?_, ?_⟩ <;> omega
theorem nshl_i64 {y : Int} {m s : Nat} (hy : y = (s : Int)) (hs : s ≤ 64) (h : m * 2 ^ s ≤ 9223372036854775807) : IntKind.i64.wrap ((m : Int) * 2 ^ min y.toNat IntKind.i64.bits) = ((m * 2 ^ s : Nat) : Int) := by
  subst hy;rw [Int.toNat_natCast, show IntKind.i64.bits = 64 from rfl, Nat.min_eq_left hs]
  have : (m : Int) * 2 ^ s = ((m * 2 ^ s : Nat) : Int) := by simp
  rw [this];exact IntWalk.i64_in _ (by omega)
theorem Zk2 {k L : Nat} (h : 2 ^ k ≤ L) (hL : L ≤ 536870912) : k ≤ 64 := by
  rcases Nat.lt_or_ge 64 k with h1 | h1
  · have := Nat.pow_le_pow_right (show 0 < 2 by decide) (Nat.le_of_lt h1)
    omega
  exact h1
theorem blk_norm {b n s : Nat} (hb : 0 < b) (hn : (lim b).length ≤ n) (hs : s = 32 * n - bl b) : (lim (b * 2 ^ s)).length = n := by
  have h1 := Zbk b
  have hb2 : bl (b * 2 ^ s) = 32 * n := by
    have := Zeu (n := b * 2 ^ s) (k := s) (by have := Nat.mul_le_mul_right (2 ^ s) hb; omega);rw [Nat.mul_div_cancel _ (Nat.two_pow_pos s)] at this;omega
  have h4 : (lim (b * 2 ^ s)).length ≤ n := by rw [Z6, ZdH, ← Zby]; omega
  have h5 := Zbk (b * 2 ^ s);omega
structure Bk (x d n j q r : Nat) : Prop where
  lt : r < d
  eq : q * d + r = x / B ^ (j * n)
theorem Bk.step {x d n j q r : Nat} (h : Bk x d n (j + 1) q r) (hd : 0 < d) :
    r * B ^ n + x / B ^ (j * n) % B ^ n < B ^ n * d ∧ Bk x d n j (q * B ^ n + (r * B ^ n + x / B ^ (j * n) % B ^ n) / d) ((r * B ^ n + x / B ^ (j * n) % B ^ n) % d) := by
  obtain ⟨h1, h2⟩ := h;have hX : 0 < B ^ n := Nat.pow_pos Zbj
  have h3 : x / B ^ ((j + 1) * n) = x / B ^ (j * n) / B ^ n := by rw [Nat.div_div_eq_div_mul, ← Nat.pow_add, Nat.add_mul, Nat.one_mul]
  rw [h3] at h2;generalize hy : x / B ^ (j * n) = y at h2 ⊢;have h4 := Nat.mod_lt y hX;have h5 : (r + 1) * B ^ n ≤ d * B ^ n := Nat.mul_le_mul_right _ h1;have h6 := Nat.mul_comm d (B ^ n);rw [Nat.add_mul, Nat.one_mul] at h5;refine ⟨by omega, Nat.mod_lt _ hd, ?_⟩;have h7 := Nat.div_add_mod (r * B ^ n + y % B ^ n) d;have h8 := Nat.div_add_mod y (B ^ n);have h9 := congrArg (B ^ n * ·) h2;simp only [Nat.mul_add] at h9;rw [hy, Nat.add_mul]
  have e1 : q * B ^ n * d = B ^ n * (q * d) := by simp only [Nat.mul_comm, Nat.mul_left_comm, Nat.mul_assoc]
  have e2 := Nat.mul_comm ((r * B ^ n + y % B ^ n) / d) d;have e3 := Nat.mul_comm r (B ^ n);omega
theorem Bk.fin {x d n q r : Nat} (h : Bk x d n 0 q r) : q = x / d ∧ r = x % d := by
  obtain ⟨h1, h2⟩ := h;rw [Nat.zero_mul, Nat.pow_zero, Nat.div_one] at h2
  have hd : 0 < d := by omega
  constructor
  · rw [← h2, Nat.mul_comm, Nat.mul_add_div hd, Nat.div_eq_of_lt h1, Nat.add_zero]
  rw [← h2, Nat.mul_comm, Nat.mul_add_mod, Nat.mod_eq_of_lt h1]
theorem Zmk (hcmp : CmpOK) (cut : Nat) (hcut : 4 ≤ cut) (a b : Nat) (ha : (lim a).length ≤ 536870912) (hb : (lim b).length ≤ 536870912) (hb0 : 0 < b) : PC C 191 [numD a, numD b, .int .i64 (cut : Int)] (fun o => o = .ret (.tup [numD (a / b), numD (a % b)])) := by
  refine Znr Tryz.func191 Tryz.ntmps191 Tryz.results191 ?_;have hL := ZB.2 (Nat.pos_iff_ne_zero.1 hb0);refine go ?_;refine Znp rfl (fun h1 => ?_) (fun h1 => ?_)
  · skip
    refine go ?_;refine Zc rfl rfl (ZcR hcmp a b (by omega) (by omega) hb0) ?_;refine go ?_;refine ZnA ?_;rfl
  refine go ?_;refine Znw (S := Nat × Nat) (fun σ : Nat × Nat => [(29, .any), (30, .any), (31, .any), (32, .any), (33, .any), (34, .any), (35, .any), (36, .any), (8, .int .i64 (σ.1 : Int)), (9, .int .i64 (σ.2 : Int))]) (fun σ : Nat × Nat => []) (fun σ : Nat × Nat => Hv (lim b).length σ.1 σ.2 ∧ σ.1 ≤ (lim b).length ∧ σ.2 ≤ (lim b).length) (fun σ : Nat × Nat => σ.1) (((lim b).length, 0)) ?_ ?_
  · exact ⟨Hv.init hL, Nat.le_refl _, by simp⟩
  rintro ⟨n, k⟩ hinv ih;dsimp only at hinv ih ⊢;obtain ⟨hH, hn, hk⟩ := hinv;refine go ?_;refine Znp rfl (fun h2 => ?_) (fun h2 => ?_)
  · skip
    have hH2 := hH.step (by omega);have hp := hH2.pw;have hk2 : k + 1 ≤ 2 ^ (k + 1) := Nat.le_of_lt Nat.lt_two_pow_self;refine gn ?_;refine Za rfl (Zf rfl rfl (Zi (by omega))) ?_;refine Za rfl (ZaQ rfl rfl (by omega) (Zay (n := 2) rfl (by omega))) ?_;refine gn ?_;refine Za rfl (Zf rfl rfl (Zi (by omega))) ?_;refine go ?_;refine ARun.ag (ih (((n + 1) / 2, k + 1)) ?_ ?_)
    · exact ⟨hH2, by dsimp only; omega, by dsimp only; omega⟩
    (dsimp only; omega)
  have hlo := hH.lo;have hhi := hH.hi;have hpw := hH.pw;have hk64 := Zk2 hpw hb;obtain ⟨N, hN⟩ : ∃ N, N = n * 2 ^ k := ⟨_, rfl⟩;have hbl := Zbk b;obtain ⟨s, hs⟩ : ∃ s, s = 32 * N - bl b := ⟨_, rfl⟩;have hdl := blk_norm hb0 (by omega) hs;have hd0 : 0 < b * 2 ^ s := Nat.mul_pos hb0 (Nat.two_pow_pos s);have h2s : (lim (2 ^ s)).length ≤ N + 1 := Nat.le_trans (Zn (show 2 ^ s ≤ B ^ N by rw [ZdH]; exact Nat.pow_le_pow_right (by decide) (by omega))) (ln_B N);have hxl := Zco a (2 ^ s)
  have hz : numD 0 = .sl 0 [] := by rw [numD, ZA]; rfl
  have hJ1 := Nat.div_add_mod ((lim (a * 2 ^ s)).length + N - 1) N;have hJ2 := Nat.mod_lt ((lim (a * 2 ^ s)).length + N - 1) (show 0 < N by omega);have hJ3 := Nat.div_le_self ((lim (a * 2 ^ s)).length + N - 1) N;obtain ⟨J, hJ⟩ : ∃ J, J = ((lim (a * 2 ^ s)).length + N - 1) / N := ⟨_, rfl⟩;rw [← hJ] at hJ1 hJ3;refine ARun.exit rfl ?_;refine gn ?_;refine Za rfl (ZfN rfl rfl (by omega) (r := (N : Nat)) ((nshl_i64 rfl hk64 (by omega)).trans (by rw [hN]))) ?_;refine gn ?_;refine Za rfl (ZaC rfl rfl (ZaD (m := 32) (by omega))) ?_;refine Zr ?_;refine Zc rfl rfl (ZcQ b (by omega)) ?_;refine Za rfl (Zk rfl rfl (r := (s : Nat)) ((Zc3 (by omega) (by omega)).trans (by rw [hs]))) ?_;refine go ?_;refine Zc rfl rfl (Zb5 b s (by omega) (by omega)) ?_;refine go ?_;refine Zc rfl rfl (Zb5 a s (by omega) (by omega)) ?_;refine gn ?_;refine Za rfl (Zf rfl rfl (Z1 (by omega))) ?_;refine Za rfl (Zk rfl rfl (ZY (by omega) (by omega))) ?_;refine Zr ?_;refine Za rfl (ZaQ rfl rfl (by omega) (Zay rfl (by omega))) ?_;refine Za rfl (Zk rfl rfl (IntWalk.i64_in _ (by omega))) ?_;refine zza ?_; refine AOps.nil (ARun.block ?_);refine ZnX 13 rfl ?_;refine ZnX 14 rfl ?_;rw [← hz, ← hJ];refine Znw (S := Nat × Nat × Nat) (fun σ : Nat × Nat × Nat => [(16, .any), (17, .any), (59, .any), (60, .any), (61, .any), (62, .any), (63, .any), (64, .any), (65, .any), (66, .any), (67, .any), (68, .any), (69, .any), (70, .any), (71, .any), (72, .any), (73, .any), (74, .any), (75, .any), (76, .any), (77, .any), (78, .any), (79, .any), (80, .any), (81, .any), (82, .any), (83, .any), (84, .any), (85, .any), (86, .any), (87, .any), (88, .any), (15, .int .i64 ((σ.1 : Int) - 1)), (13, numD σ.2.1), (14, numD σ.2.2)]) (fun σ : Nat × Nat × Nat => []) (fun σ : Nat × Nat × Nat => Bk (a * 2 ^ s) (b * 2 ^ s) N σ.1 σ.2.1 σ.2.2 ∧ σ.1 ≤ J) (fun σ : Nat × Nat × Nat => σ.1) ((J, 0, 0)) ?_ ?_
  · exact ⟨⟨hd0, by dsimp only; rw [Nat.div_eq_of_lt (Nat.lt_of_lt_of_le (ZcV _) (Nat.pow_le_pow_right Zbj (by rw [Nat.mul_comm J N]; omega)))]; omega⟩, Nat.le_refl _⟩
  rintro ⟨j, q, r⟩ hinv2 ih2;dsimp only at hinv2 ih2 ⊢;obtain ⟨hB, hj⟩ := hinv2;have hr := hB.lt;have hrl := Zn (Nat.le_of_lt hr)
  have hql : (lim q).length ≤ (lim (a * 2 ^ s)).length := by
    refine Zn ?_;have h5 := hB.eq;have h6 := Nat.div_le_self (a * 2 ^ s) (B ^ (j * N));have h7 := Nat.mul_le_mul_left q (show 1 ≤ b * 2 ^ s from hd0);omega
  refine go ?_;refine Znp rfl (fun h3 => ?_) (fun h3 => ?_)
  · skip
    obtain ⟨i, rfl⟩ : ∃ i, j = i + 1 := ⟨j - 1, by omega⟩;rw [show (((i + 1 : Nat) : Int) - 1) = (i : Int) by omega];obtain ⟨g1, g2⟩ := hB.step hd0
    have hiN : i * N ≤ (lim (a * 2 ^ s)).length := by
      have h5 : N * (i + 1) ≤ N * J := Nat.mul_le_mul_left _ hj;rw [Nat.mul_add, Nat.mul_one, Nat.mul_comm N i] at h5;omega
    have u1 := ZfQ (a * 2 ^ s) (i * N);have u2 := ZhU (a * 2 ^ s / B ^ (i * N)) N;have u3 := Zco r (B ^ N);have u4 := ln_B N;have u5 := Zco q (B ^ N);have u6 := Zev (r * B ^ N) (a * 2 ^ s / B ^ (i * N) % B ^ N);have u7 := Nat.le_trans (Zn (Nat.div_le_self (r * B ^ N + a * 2 ^ s / B ^ (i * N) % B ^ N) (b * 2 ^ s))) u6;refine gn ?_;refine Za rfl (ZaC rfl rfl (ZaD (by omega))) ?_;refine Zc rfl rfl (Zbe _ (i * N) (by omega)) ?_;refine Zr ?_;refine Zc rfl rfl (Zb4 _ N (by omega)) ?_;refine gn ?_;refine Za rfl (ZaC rfl rfl (ZaD (m := 32) (by omega))) ?_;refine Zc rfl rfl (Ze1 _ N (by omega) (by omega)) ?_;refine Zr ?_;refine Zc rfl rfl (ZaI _ _ (by omega) (by omega)) ?_;refine go ?_;refine Zc rfl rfl (ZmO hcmp cut N (by omega) (by omega) _ _ hdl g1) ?_;refine gn ?_;refine Za rfl (ZaC rfl rfl (ZaD (m := 32) (by omega))) ?_;refine Zc rfl rfl (Ze1 _ N (by omega) (by omega)) ?_;refine Zr ?_;refine Zc rfl rfl (ZaI _ _ (by omega) (by omega)) ?_;refine gn ?_;refine Za rfl (Zk rfl rfl (IntWalk.i64_in _ (by omega))) ?_;refine go ?_;refine ZnC (ih2 ((i, q * B ^ N + (r * B ^ N + a * 2 ^ s / B ^ (i * N) % B ^ N) / (b * 2 ^ s), (r * B ^ N + a * 2 ^ s / B ^ (i * N) % B ^ N) % (b * 2 ^ s))) ?_ ?_) ?_ ?_
    · exact ⟨g2, by dsimp only; omega⟩
    · (dsimp only; omega)
    · (repeat' first | exact Zag | apply Zah | apply Z4)
    rfl
  have hj0 : j = 0 := by omega
  subst hj0;obtain ⟨f1, f2⟩ := hB.fin;refine ARun.exit rfl ?_;refine go ?_;refine Zc rfl rfl (ZiS _ s (by omega) (by omega)) ?_;refine go ?_;refine ZnA ?_;rw [f1, f2, Nat.mul_div_mul_right _ _ (Nat.two_pow_pos s), Nat.mul_mod_mul_right, Nat.mul_div_cancel _ (Nat.two_pow_pos s)]
  try rfl
abbrev Zen (e : Int) : D := .iface Zeq (.agg [.int .i64 e])
theorem ZbD (ok : Bool) (e : Int) : PC C 152 [.bool ok, .int .i64 e] (fun o => (ok = true ∧ o = .ret (.tup [])) ∨ (ok = false ∧ o = .pan (Zen e))) := by
  refine Znr Tryz.func152 Tryz.ntmps152 Tryz.results152 ?_;refine go ?_;refine ARun.cond rfl (fun h => ?_) (fun h => ?_)
  · skip
    refine gn ?_;refine Za rfl (ZH rfl rfl rfl) ?_;exact Zix rfl rfl ⟨_, _, .same _, rfl, .inr ⟨by simpa using h, rfl⟩⟩
  refine ARun.skip ?_;refine ARun.nil ?_;refine ⟨_, _, _, .nil, .nil, rfl, ?_⟩;exact .inl ⟨by simpa using h, rfl⟩
def Zed (xs : List Nat) : Prop := xs.length ≤ 1024 ∧ Canon xs
theorem Zdd {xs : List Nat} : Zed xs ↔ xs.length ≤ 1024 ∧ (xs.length = 0 ∨ xs.getD (xs.length - 1) 0 ≠ 0) := by
  unfold Zed Canon;rw [List.length_eq_zero_iff]
theorem ZdK (xs : List Nat) (dc : Decidable (Zed xs)) : PC C 219 [sln .u32 xs] (fun o => o = .ret (.bool (decide (Zed xs)))) := by
  refine Znr Tryz.func219 Tryz.ntmps219 Tryz.results219 ?_;refine ZnG 0 rfl (fun hlen => ?_);rw [Zy] at hlen;refine zzs ?_; refine zza ?_; refine zzt ?_; refine Zr ?_; refine zzN ?_; refine zzi ?_; refine Zr ?_;refine AOps.bool 6 rfl (fun h1 => ?_) (fun h1 => ?_)
  · skip
    replace h1 := Zh h1;refine Zr ?_; refine zzN ?_; refine zzi ?_; refine Zr ?_;refine AOps.bool 10 rfl (fun h2 => ?_) (fun h2 => ?_)
    · skip
      replace h2 : (xs.length : Int) = 0 := by simpa using h2
      refine go ?_;refine Zno ?_;have : Zed xs := Zdd.2 ⟨by omega, .inl (by omega)⟩;rw [decide_eq_true this]
      try rfl
    replace h2 : ¬ (xs.length : Int) = 0 := by simpa using h2
    refine gn ?_;refine Za rfl (Zk rfl rfl (ZY (by omega) (by omega))) ?_;refine Za rfl (Zm rfl rfl rfl rfl (by omega) (by omega) (Zam (by omega)) (ZM rfl)) ?_;refine Za rfl (ZP rfl rfl rfl (Zb8 (by omega))) ?_;refine go ?_;refine Zno ?_
    have e : decide (Zed xs) = (((xs.getD (xs.length - 1) 0 : Nat) : Int) != 0) := by
      by_cases hz : xs.getD (xs.length - 1) 0 = 0
      · have : ¬ Zed xs := fun x => by
          rcases (Zdd.1 x).2 with y | y
          · omega
          exact y hz
        rw [decide_eq_false this, hz];rfl
      rw [decide_eq_true (Zdd.2 ⟨by omega, .inr hz⟩)]
      have : ¬ ((xs.getD (xs.length - 1) 0 : Nat) : Int) = 0 := by omega
      simp only [bne, beq_eq_false_iff_ne.2 this, Bool.not_false]
    rw [e]
    try rfl
  replace h1 := Zj h1;refine go ?_;refine Zno ?_
  have : ¬ Zed xs := fun x => by have := x.1; omega
  rw [decide_eq_false this]
  try rfl
open Go.RowKit
def recD : AMode → D × AMode
  | .panicking d => (d, .recovered d)
  | m => (.niliface, m)
theorem DC.of_run {C : Ctx} {f : FuncId} {fn : Func} {id : Nat} {c2 : Code} {args : List D} {H : Heap} {m : AMode} {R : AMode → Heap → Prop} {n : Nat} {t1 t2 : Tmp} {ty1 ty2 : TypeId} {p1 p2 : String} {a1 a2 : Array Edge} {at1 : Array TypeId} {env1 env2 : List D}
    (hf : C.P.funcs[f]? = some fn) (hen : Enters C.P f) (hb : fn.body = some (.seq (.region id #[⟨some t1, .call ⟨.builtin .recover, #[], at1⟩, ty1, p1, a1, none⟩, ⟨some t2, .assign (.tmp t1), ty2, p2, a2, none⟩] false) c2)) (hn : fn.ntmps = n) (hres : fn.results.toList = [])
    (hm : ∀ d, m ≠ .recovered d) (he1 : Zu (args ++ List.replicate (n - args.length) (.tup [])) (some t1) (recD m).1 = env1) (ht1 : env1[t1]? = some (recD m).1) (he2 : Zu env1 (some t2) (recD m).1 = env2)
    (h : ARun C ⟨none, fun x _ H' df => df = [] ∧ match x with | .ret => R (recD m).2 H' | .norm => R (recD m).2 H' | _ => False⟩ [.code c2] env2 H []) : DC C f H args m R := by
  refine ⟨hen, fun L0 w μ vs u hs ha hu c₀ cs hc₀ => ?_⟩;have hl := ZJ ha
  let b : Frame := { (default : Frame) with fn := f, kind := .deferred }
  let a : Act := { tmps := vs.toArray ++ Array.replicate (fn.ntmps - vs.toArray.size) undef, defers := [] }
  have henter : Frame.enter C.P f vs.toArray .deferred = b.at a [.code (.seq (.region id #[⟨some t1, .call ⟨.builtin .recover, #[], at1⟩, ty1, p1, a1, none⟩, ⟨some t2, .assign (.tmp t1), ty2, p2, a2, none⟩] false) c2)] := by
    simp [Frame.enter, Frame.at, hf, hb, b, a]
  have htm : VRs w (forb L0 μ H) μ H (args ++ List.replicate (n - args.length) (.tup [])) a.tmps.toList := by
    have : a.tmps.toList = vs ++ List.replicate (n - args.length) undef := by
      simp [a, hn, hl]
    rw [this];exact Zbt ha (Zg1 _)
  have hrec : ∃ (v : Value) (u' : FrameMode), VR w (forb L0 μ H) μ H (recD m).1 v ∧ ModeR w (forb L0 μ H) μ H (recD m).2 u' ∧
      (match recoverD (c₀ :: cs) with | some (v, cs') => (v, cs') | none => (.nilIface, c₀ :: cs)) = (v, { c₀ with mode := u' } :: cs) := by
    cases m with
    | returning =>
      have hu' : u = .returning := hu;subst hu';refine ⟨.nilIface, .returning, by simp [recD, VR], rfl, ?_⟩
      have : c₀ = { c₀ with mode := .returning } := by rw [← hc₀]
      simp only [recoverD, hc₀];rw [← this]
    | panicking d =>
      obtain ⟨v, hu', hvd⟩ := hu;subst hu';refine ⟨v, .panicking [{ v := v, recovered := true }], hvd, ⟨v, rfl, hvd⟩, ?_⟩;simp only [recoverD, hc₀, pan1]
    | recovered d => exact (hm d rfl).elim
  obtain ⟨v, u', hv, hu', hrd⟩ := hrec
  let aa : Act := (a.put (some t1) v).put (some t2) v
  have hv1 : VRs w (forb L0 μ H) μ H env1 (a.put (some t1) v).tmps.toList := by rw [← he1]; exact ZbL htm hv
  have hev1 : (a.put (some t1) v).eval (.tmp t1) = v := by
    obtain ⟨u1, k1, k2⟩ := Z2 hv1 ht1;simp only [Act.eval];rw [Zch k1]
    have : (a.put (some t1) v).tmps.toList[t1]? = some v := by
      have hlt := (List.getElem?_eq_some_iff.1 k1).1;simp only [Act.put, Array.toList_setIfInBounds] at hlt ⊢;rw [List.getElem?_set];simp at hlt ⊢;exact hlt
    rw [this] at k1
    injection k1 with k1
    exact k1.symm
  have hv2 : VRs w (forb L0 μ H) μ H env2 aa.tmps.toList := by rw [← he2]; exact ZbL hv1 hv
  have hstep : ∃ e a' cs' w', (e = .normal ∧ a' = aa ∧ cs' = { c₀ with mode := u' } :: cs ∧ w' = w) ∧ Arrives C.P (lone (b.at a (.inRegion #[⟨some t1, .call ⟨.builtin .recover, #[], at1⟩, ty1, p1, a1, none⟩, ⟨some t2, .assign (.tmp t1), ty2, p2, a2, none⟩] [0, 1] :: [.code c2])) (c₀ :: cs) w) b [.code c2] cs' e a' w' := by
    refine wp_opsS (P := C.P) (Q := fun e a' cs' w' => e = .normal ∧ a' = aa ∧ cs' = { c₀ with mode := u' } :: cs ∧ w' = w) [0, 1] a (c₀ :: cs) w ?_ b [.code c2] rfl rfl
    have hasg : ∀ (w : World), (execOp (a.put (some t1) v).eval ⟨some t2, .assign (.tmp t1), ty2, p2, a2, none⟩).run C.P w = .ok (.value v) w := by
      intro w; simp only [execOp, hev1, Sem.run_pure]
    have hro : ∀ (w : World), (execOp a.eval ⟨some t1, .call ⟨.builtin .recover, #[], at1⟩, ty1, p1, a1, none⟩).run C.P w = .ok .recover w := by
      intro w; simp [execOp, resolve, invoke, builtin]
    have fin : ∀ cs', cs' = { c₀ with mode := u' } :: cs → wpOpsS C.P #[⟨some t1, .call ⟨.builtin .recover, #[], at1⟩, ty1, p1, a1, none⟩, ⟨some t2, .assign (.tmp t1), ty2, p2, a2, none⟩] (fun e a' cs' w' => e = .normal ∧ a' = aa ∧ cs' = { c₀ with mode := u' } :: cs ∧ w' = w) [1] (a.put (some t1) v) cs' w := by
      intro cs' hcs;simp [wpOpsS, Region.wanted, hasg, Oper.upon, hcs, aa]
    cases hrr : recoverD (c₀ :: cs) with
    | none =>
      rw [hrr] at hrd
      injection hrd with h1 h2
      subst h1;have := fin (c₀ :: cs) h2
      simpa [wpOpsS, Region.wanted, hro, hrr] using this
    | some p =>
      obtain ⟨pv, pcs⟩ := p;rw [hrr] at hrd
      injection hrd with h1 h2
      subst h1;have := fin pcs h2
      simpa [wpOpsS, Region.wanted, hro, hrr] using this
  obtain ⟨e0, a0, cs0, w0, ⟨q1, q2, q3, q4⟩, harr⟩ := hstep;rw [q1, q2, q3, q4] at harr;obtain ⟨e, a', w', ⟨x, env, H', μ', df, ⟨hdf, hR⟩, s1, hv', hd', hx', he'⟩, harr2⟩ := h.out L0 w μ H w μ aa hs hv2 rfl (Evo.refl _ _ _) b ({ c₀ with mode := u' } :: cs) rfl;subst hdf;have hd0 : a'.defers = [] := hd'
  have hsteps : Steps C.P (lone (b.at a [.code (.seq (.region id #[⟨some t1, .call ⟨.builtin .recover, #[], at1⟩, ty1, p1, a1, none⟩, ⟨some t2, .assign (.tmp t1), ty2, p2, a2, none⟩] false) c2)]) (c₀ :: cs) w) (lone (b.at aa [.code c2]) ({ c₀ with mode := u' } :: cs) w) :=
    Steps.trans (.one step_seq) (Steps.trans (.one step_region) harr)
  rw [← henter] at hsteps;have eAt : b.atR aa [.code c2] = b.at aa [.code c2] := Frame.atR_of_none rfl _ _;rw [← eAt] at hsteps;obtain ⟨rv, r1, _⟩ := ZgJ s1 hv' (fn := fn) (ds := []) (by rw [hres]; exact .nil);have hmode : ModeR w' (forb L0 μ' H') μ' H' (recD m).2 u' := hu'.step (he'.step L0)
  cases x with
  | ret =>
    have hx2 : e = .ret := hx';subst hx2;obtain ⟨k, hst⟩ := harr2;exact ⟨.returned rv, u', w', { b.atR a' (.code .ret :: k) with mode := .returning }, ⟨rv, (recD m).2, H', μ', rfl, hR, s1, hmode, he'⟩, Steps.trans hsteps (Steps.trans hst (.one (stepR_ret rfl))), rfl, rfl, hd0, fn, hf, r1⟩
  | norm =>
    have hx2 : e = .normal := hx';subst hx2;exact ⟨.returned rv, u', w', { b.atR a' [] with mode := .returning }, ⟨rv, (recD m).2, H', μ', rfl, hR, s1, hmode, he'⟩, Steps.trans hsteps (Steps.trans harr2 (.one (stepR_end rfl))), rfl, rfl, hd0, fn, hf, r1⟩
  | exit id => exact hR.elim
  | pan d => exact hR.elim
section
variable {C : Ctx} {Q : Post} {ops : Array Oper} {rest : List Oper} {k : List Item} {env env' : List D} {H : Heap} {df : List ADef}
variable {dst : Option Tmp} {ty : TypeId} {pos : String} {aft : Array Edge} {gd : Option (Nat × Bool)} {x : Operand}
theorem Zc0 {f : FuncId} {args : List Operand} {ds : List D} {tys : Array TypeId} [hput : Put env dst (.tup []) env'] (hg : gOk ops.toList env gd = some true) (hx : evO C env x = some (.clos f [])) (ha : evOs C env args = some ds) (hk : AOps C Q ops rest k env' H (.fn f ds :: df)) (hrn : Q.rd = none := by rfl) :
    AOps C Q ops (⟨dst, .defer ⟨.value x, args.toArray, tys⟩, ty, pos, aft, gd⟩ :: rest) k env H df := by
  refine ⟨fun i hi => ⟨fun L0 w0 μ0 H0 w μ a hs hv hd he b cs hrd => ?_⟩⟩
  have ho : ops[i]? = some ⟨dst, .defer ⟨.value x, args.toArray, tys⟩, ty, pos, aft, gd⟩ := by have := Zd6 hi; simpa using this
  have hw := Zet (C := C) hv (o := ⟨dst, .defer ⟨.value x, args.toArray, tys⟩, ty, pos, aft, gd⟩) hg;have ex := Zap hs hv hx;have ea := Zfc hs hv ha;simp only [VR, VRs] at ex;obtain ⟨cvs, ex, rfl⟩ := ex
  let d : Deferred := { target := .fn (.func f) #[], args := (args.map a.eval).toArray }
  have hrun : (execOp a.eval ⟨dst, .defer ⟨.value x, args.toArray, tys⟩, ty, pos, aft, gd⟩).run C.P w = .ok (.defer d) w := by
    simp [execOp, resolve, ex, Deferred.ofValue, d]
  have hwp : Oper.wp C.P ⟨dst, .defer ⟨.value x, args.toArray, tys⟩, ty, pos, aft, gd⟩ a w (fun a' w' => a' = ({ a with defers := d :: a.defers } : Act).put dst undef ∧ w' = w) (fun _ _ _ => False) := by
    unfold Oper.wp;rw [hrun];exact ⟨rfl, rfl⟩
  rw [List.length_cons, List.range'_succ]
  rcases Zdj (rest := List.range' (i + 1) rest.length) ho hw hwp (by rintro ⟨_, _, h⟩; exact h) b (.inl (by rw [hrn] at hrd; exact hrd)) k cs with ⟨a', w', ⟨h1, h2⟩, hst⟩ | ⟨_, _, _, h, _⟩
  · subst h2
    have hv2 : VRs w' (forb L0 μ H) μ H env' a'.tmps.toList := by
      rw [h1, ← hput.eq];exact ZbL (a := { a with defers := d :: a.defers }) hv (by simp only [VR]; exact ⟨[], rfl, by simp [VRs]⟩)
    have hd2 : DfR w' (forb L0 μ H) μ H (.fn f ds :: df) a'.defers := by
      rw [h1, ZaB];simp only [DfR];exact ⟨_, [], _, rfl, by rw [List.append_nil]; exact ea, hd⟩
    obtain ⟨e, a2, w2, h3, h4⟩ := (hk.out (i + 1) (Zda hi)).out L0 w0 μ0 H0 w' μ a' hs hv2 hd2 he b cs hrd;exact ⟨e, a2, w2, h3, .of_steps hst h4⟩
  exact h.elim
theorem ZmP {f : FuncId} {args : List Operand} {ds caps : List D} {tys : Array TypeId} [hput : Put env dst (.tup []) env'] (hg : gOk ops.toList env gd = some true) (hx : evO C env x = some (.clos f caps)) (ha : evOs C env args = some ds) (hk : AOps C Q ops rest k env' H (.fn f (ds ++ caps) :: df)) (hrn : Q.rd = none := by rfl) :
    AOps C Q ops (⟨dst, .defer ⟨.value x, args.toArray, tys⟩, ty, pos, aft, gd⟩ :: rest) k env H df := by
  refine ⟨fun i hi => ⟨fun L0 w0 μ0 H0 w μ a hs hv hd he b cs hrd => ?_⟩⟩
  have ho : ops[i]? = some ⟨dst, .defer ⟨.value x, args.toArray, tys⟩, ty, pos, aft, gd⟩ := by have := Zd6 hi; simpa using this
  have hw := Zet (C := C) hv (o := ⟨dst, .defer ⟨.value x, args.toArray, tys⟩, ty, pos, aft, gd⟩) hg;have ex := Zap hs hv hx;have ea := Zfc hs hv ha;simp only [VR] at ex;obtain ⟨cvs, ex, ec⟩ := ex
  let d : Deferred := { target := .fn (.func f) cvs.toArray, args := (args.map a.eval).toArray }
  have hrun : (execOp a.eval ⟨dst, .defer ⟨.value x, args.toArray, tys⟩, ty, pos, aft, gd⟩).run C.P w = .ok (.defer d) w := by
    simp [execOp, resolve, ex, Deferred.ofValue, d]
  have hwp : Oper.wp C.P ⟨dst, .defer ⟨.value x, args.toArray, tys⟩, ty, pos, aft, gd⟩ a w (fun a' w' => a' = ({ a with defers := d :: a.defers } : Act).put dst undef ∧ w' = w) (fun _ _ _ => False) := by
    unfold Oper.wp;rw [hrun];exact ⟨rfl, rfl⟩
  rw [List.length_cons, List.range'_succ]
  rcases Zdj (rest := List.range' (i + 1) rest.length) ho hw hwp (by rintro ⟨_, _, h⟩; exact h) b (.inl (by rw [hrn] at hrd; exact hrd)) k cs with ⟨a', w', ⟨h1, h2⟩, hst⟩ | ⟨_, _, _, h, _⟩
  · subst h2
    have hv2 : VRs w' (forb L0 μ H) μ H env' a'.tmps.toList := by
      rw [h1, ← hput.eq];exact ZbL (a := { a with defers := d :: a.defers }) hv (by simp only [VR]; exact ⟨[], rfl, by simp [VRs]⟩)
    have hd2 : DfR w' (forb L0 μ H) μ H (.fn f (ds ++ caps) :: df) a'.defers := by
      rw [h1, ZaB];simp only [DfR];exact ⟨_, cvs, _, rfl, Zbt ea ec, hd⟩
    obtain ⟨e, a2, w2, h3, h4⟩ := (hk.out (i + 1) (Zda hi)).out L0 w0 μ0 H0 w' μ a' hs hv2 hd2 he b cs hrd;exact ⟨e, a2, w2, h3, .of_steps hst h4⟩
  exact h.elim
end
def isIf (P : Program) (t : TypeId) : Bool :=
  match P.underlying t with
  | some (.interface _) => true
  | _ => false
section
variable {P : Program} {t : TypeId}
theorem Zfg (h : isIf P t = true) : ∃ ms, P.underlying t = some (.interface ms) := by
  unfold isIf at h
  cases hu : P.underlying t with
  | none => simp [hu] at h
  | some d => cases d <;> first | (simp [hu] at h; done) | exact ⟨_, rfl⟩
theorem run_ifNe (w : World) (h : isIf P t = true) (u : TypeId) (x : Value) : (binOp .neq t (.iface u x) .nilIface).run P w = .ok (.bool true) w := by
  obtain ⟨ms, hu⟩ := Zfg h;simp only [binOp];simp [Op.equal, Op.maxDepth];rw [Op.equalIn];simp [run_underlying hu]
theorem run_ifNeNil (w : World) (h : isIf P t = true) : (binOp .neq t .nilIface .nilIface).run P w = .ok (.bool false) w := by
  obtain ⟨ms, hu⟩ := Zfg h;simp only [binOp];simp [Op.equal, Op.maxDepth];rw [Op.equalIn];simp [run_underlying hu]
theorem run_ifEq (w : World) (h : isIf P t = true) (u : TypeId) (x : Value) : (binOp .eql t (.iface u x) .nilIface).run P w = .ok (.bool false) w := by
  obtain ⟨ms, hu⟩ := Zfg h;simp only [binOp];simp [Op.equal, Op.maxDepth];rw [Op.equalIn];simp [run_underlying hu]
theorem run_ifEqNil (w : World) (h : isIf P t = true) : (binOp .eql t .nilIface .nilIface).run P w = .ok (.bool true) w := by
  obtain ⟨ms, hu⟩ := Zfg h;simp only [binOp];simp [Op.equal, Op.maxDepth];rw [Op.equalIn];simp [run_underlying hu]
end
section
variable {C : Ctx} {env : List D} {H : Heap} {dst : Option Tmp} {ty : TypeId} {pos : String} {aft : Array Edge} {gd : Option (Nat × Bool)} {x : Operand} {T T' U xT : TypeId} {d : D} {te : TE}
theorem q_ifNe (hi : isIf C.P U = true) (hx : evO C env x = some (.iface T d)) : OpQ C ⟨dst, .binOp .neq U x (.const .nilIface) T', ty, pos, aft, gd⟩ env H (.bool true) :=
  OpQ.of_run fun L w μ a he => by
    have ex := he _ _ hx;simp only [VR] at ex;obtain ⟨u, ex, _⟩ := ex;refine ⟨.bool true, ?_, by simp only [VR]⟩
    have hg : (eqGuard .neq U x (.const .nilIface) (.iface T u) .nilIface).run C.P w = .ok () w := by
      unfold eqGuard; simp
    have ec : a.eval (.const .nilIface) = .nilIface := rfl;simp only [execOp, ex, ec, Sem.run_bind, hg, Result.andThen_ok, run_ifNe w hi T u, Sem.run_pure]
theorem Zf8 (hi : isIf C.P U = true) (hx : evO C env x = some .niliface) : OpQ C ⟨dst, .binOp .neq U x (.const .nilIface) T', ty, pos, aft, gd⟩ env H (.bool false) :=
  OpQ.of_run fun L w μ a he => by
    have ex := he _ _ hx;simp only [VR] at ex;refine ⟨.bool false, ?_, by simp only [VR]⟩
    have hg : (eqGuard .neq U x (.const .nilIface) .nilIface .nilIface).run C.P w = .ok () w := by
      unfold eqGuard; simp
    have ec : a.eval (.const .nilIface) = .nilIface := rfl;simp only [execOp, ex, ec, Sem.run_bind, hg, Result.andThen_ok, run_ifNeNil w hi, Sem.run_pure]
theorem ZcG (ht : C.ty T = some te) (hc : conK te.k = true) (hx : evO C env x = some (.iface T d)) : OpQ C ⟨dst, .typeAssert x xT T true, ty, pos, aft, gd⟩ env H (.tup [d, .bool true]) :=
  OpQ.of_run fun L w μ a he => by
    have ex := he _ _ hx;simp only [VR] at ex;obtain ⟨u, ex, hu⟩ := ex;refine ⟨.tuple #[u, .bool true], ?_, by simp only [VR, VRs]; exact ⟨[u, .bool true], rfl, _, _, rfl, hu, _, _, rfl, rfl, rfl⟩⟩;have hun := (ZU ht).1.run_un w;have hk := (C.ok T te ht).2
    have hne : ∀ ms, Zd8 C.P T ≠ .interface ms := by
      intro ms e;have hu2 := (ZU ht).1.un;rw [e] at hu2
      cases hkk : te.k <;> rw [hkk] at hk hc <;> simp only [TKok] at hk <;> first | (cases hc; done) | (rw [hu2] at hk; cases hk; done) | (obtain ⟨_, h1, _⟩ := hk; rw [hu2] at h1; cases h1; done) | (obtain ⟨_, h1⟩ := hk; rw [hu2] at h1; cases h1)
    simp only [execOp, ex, Instr.typeAssert, Sem.run_bind, hun, Result.andThen_ok];generalize Zd8 C.P T = dsc at hne
    cases dsc <;> first | (exact (hne _ rfl).elim) | simp
end
theorem Zgr (o0 : Option AObj) (e0 : Int) : DC C 140 [o0, some ⟨[.int .i64 e0], ZL, 1, true, none⟩] [.ptr 1 0] .returning (fun m' H' => m' = .returning ∧ H' = [o0, some ⟨[.int .i64 e0], ZL, 1, true, none⟩]) := by
  refine DC.of_run Zcq Zdf rfl Zdg (by rw [Zdh]) (fun _ h => by cases h) (by simp only [List.length_cons, List.length_nil, Nat.reduceAdd, Nat.reduceSub, List.replicate_succ, List.replicate_zero, List.cons_append, List.nil_append, recD, Zu, List.set_cons_succ, List.set_cons_zero]; exact rfl) rfl (by simp only [recD, Zu, List.set_cons_succ, List.set_cons_zero]; exact rfl) ?_;refine gn ?_;refine Za rfl (Zf8 (by kernel_rfl) rfl) ?_;refine AOps.nil ?_;refine Znx rfl ?_;refine ARun.skip ?_;refine ARun.nil ?_;exact ⟨rfl, rfl, rfl⟩
theorem Zgs (o0 : Option AObj) (e0 e : Int) : DC C 140 [o0, some ⟨[.int .i64 e0], ZL, 1, true, none⟩] [.ptr 1 0] (.panicking (Zen e)) (fun m' H' => m' = .recovered (Zen e) ∧ H' = [o0, some ⟨[.int .i64 e], ZL, 1, true, none⟩, some ⟨[.int .i64 e], Zeq, 1, true, none⟩]) := by
  refine DC.of_run Zcq Zdf rfl Zdg (by rw [Zdh]) (fun _ h => by cases h) (by simp only [List.length_cons, List.length_nil, Nat.reduceAdd, Nat.reduceSub, List.replicate_succ, List.replicate_zero, List.cons_append, List.nil_append, recD, Zu, List.set_cons_succ, List.set_cons_zero]; exact rfl) rfl (by simp only [recD, Zu, List.set_cons_succ, List.set_cons_zero]; exact rfl) ?_;refine gn ?_;refine Za rfl (q_ifNe (by kernel_rfl) rfl) ?_;refine AOps.nil ?_;refine Znz rfl ?_;refine gn ?_;refine Za rfl (ZcG rfl rfl rfl) ?_;refine go ?_;refine Znx rfl ?_;refine gn ?_;refine Za rfl (q_nil rfl rfl) ?_;refine zzT ?_; refine AOps.nil ?_;refine ARun.nil ?_;exact ⟨rfl, rfl, rfl⟩
def idxF (p : D → Bool) : List D → Nat → Int
  | [], _ => -1
  | d :: ds, i => bif p d then (i : Int) else idxF p ds (i + 1)
theorem idxF_any (p : D → Bool) : ∀ (ds : List D) (i : Nat), decide (idxF p ds i ≥ 0) = ds.any p
  | [], _ => by simp [idxF]
  | d :: ds, i => by
    simp only [idxF, List.any_cons];have ih := idxF_any p ds (i + 1)
    by_cases h : p d = true
    · simp [h]
    simp only [Bool.not_eq_true] at h;simp only [h, cond_false, Bool.false_or];exact ih
theorem idxF_drop {p : D → Bool} {ds : List D} {i : Nat} {d : D} (h : ds[i]? = some d) : idxF p (ds.drop i) i = bif p d then (i : Int) else idxF p (ds.drop (i + 1)) (i + 1) := by
  have hl := (List.getElem?_eq_some_iff.1 h).1;have he := (List.getElem?_eq_some_iff.1 h).2;rw [List.drop_eq_getElem_cons hl, idxF, he]
theorem Zml (ds : List D) (n : Nat) (hn : ds.length = n) (f : FuncId) (caps : List D) (p : D → Bool) (hc : D.pure.pures caps = true) (hf : ∀ d ∈ ds, PC C f ([d] ++ caps) (fun o => o = .ret (.bool (p d)))) : PC C 282 [.sl n ds, .clos f caps] (fun o => o = .ret (.int .i64 (idxF p ds 0))) := by
  refine PC.run ZaX Zcu rfl Zcv (by simp [D.pure.pures, D.pure, hc]) (rs := [.tmp 4]) (by rw [Zcw]) (by simp only [List.length_cons, List.length_nil, Nat.reduceAdd, Nat.reduceSub, List.replicate_succ, List.replicate_zero, List.cons_append, List.nil_append]; exact rfl) ?_;refine ZnG 0 rfl (fun hlen => ?_);rw [Zy] at hlen;refine go ?_;refine Znw (S := Nat) (fun i : Nat => [(4, .any), (5, .any), (9, .any), (10, .any), (11, .any), (12, .any), (13, .any), (14, .any), (15, .any), (16, .any), (17, .any), (18, .any), (8, .int .i64 (i : Int))]) (fun i : Nat => []) (fun i : Nat => i ≤ n ∧ idxF p (ds.drop i) i = idxF p ds 0) (fun i : Nat => n - i) (0) ?_ ?_
  · exact ⟨Nat.zero_le _, rfl⟩
  rintro i hinv ih;obtain ⟨hi, he⟩ := hinv;refine go ?_;refine Znp rfl (fun h => ?_) (fun h => ?_)
  · skip
    have hlt : i < ds.length := by omega
    obtain ⟨d, hd⟩ : ∃ d, ds[i]? = some d := ⟨ds[i], by simp [hlt]⟩;have hx := idxF_drop (p := p) hd;refine go ?_;refine Za rfl (Zm rfl rfl rfl rfl (by omega) (by omega) (fun e => by rw [e] at hlt; simp at hlt) (ZM rfl)) ?_;refine Za rfl (ZP rfl rfl rfl (by rw [List.getElem?_drop]; exact hd)) ?_;refine Zc rfl rfl (hf d (List.mem_of_getElem? hd)) ?_;refine AOps.nil ?_;refine ARun.cond rfl (fun hp => ?_) (fun hp => ?_)
    · skip
      refine go ?_;refine Zno ?_;rw [← he, hx, hp]
      try rfl
    refine gn ?_;refine Za rfl (Zf rfl rfl (Zi (by omega))) ?_;refine go ?_;refine ARun.ag (ih ((i + 1)) ?_ ?_)
    · exact ⟨by omega, by rw [← he, hx, hp]; rfl⟩
    omega
  refine ARun.exit rfl ?_;refine go ?_;refine Zno ?_;rw [← he, List.drop_of_length_le (by omega)]
  try rfl
theorem ZkF (ds : List D) (n : Nat) (hn : ds.length = n) (f : FuncId) (caps : List D) (p : D → Bool) (hc : D.pure.pures caps = true) (hf : ∀ d ∈ ds, PC C f ([d] ++ caps) (fun o => o = .ret (.bool (p d)))) : PC C 217 [.sl n ds, .clos f caps] (fun o => o = .ret (.bool (ds.any p))) := by
  refine PC.run ZaL ZbZ rfl Zb0 (by simp [D.pure.pures, D.pure, hc]) (rs := [.tmp 4]) (by rw [Zb1]) (by simp only [List.length_cons, List.length_nil, Nat.reduceAdd, Nat.reduceSub, List.replicate_succ, List.replicate_zero, List.cons_append, List.nil_append]; exact rfl) ?_;refine go ?_;refine Zc rfl rfl (Zml ds n hn f caps p hc hf) ?_;refine go ?_;refine Zno ?_;rw [← idxF_any p ds 0]
  try rfl
def QRound (id : Nat) (K : Option Code → Heap → Prop) : Post := ⟨some id, fun x _ H df => df = [] ∧ match x with
  | .norm => K none H
  | .ret => K (some .ret) H
  | .exit i => K (some (.exit i)) H
  | .pan _ => False⟩
theorem ZdS {P : Program} {w : World} {l : Nat} {r : Loop} (h : w.heap[l]? = some (.loop r)) : (Instr.getLoop l).run P w = .ok r w := by
  simp [Instr.getLoop, getObj, Sem.run, Sem.run_bind, h, Result.andThen]
theorem ZfS {P : Program} {w : World} {l : Nat} {r : Loop} (o : Obj) (h : w.heap[l]? = some (.loop r)) : (setObj l o).run P w = .ok () (putB w l o) := by simp [setObj, Sem.run, h, putB]
theorem Ziv {P : Program} {w : World} {l : Nat} {r : Loop} (h : w.heap[l]? = some (.loop r)) (hr : r.state = .ready) : (Instr.beginRound l).run P w = .ok () (putB w l (.loop { r with state := .busy })) := by
  simp [Instr.beginRound, Sem.run_bind, ZdS h, ZfS _ h, Result.andThen, hr]
theorem ZjY {P : Program} {w : World} {l : Nat} {r : Loop} (jump : Option Code) (h : w.heap[l]? = some (.loop r)) : (Instr.endRound l jump).run P w = .ok (.bool jump.isNone) (putB w l (.loop { r with state := if jump.isNone then .ready else .done, pending := jump })) := by
  simp [Instr.endRound, Sem.run_bind, ZdS h, ZfS _ h, Result.andThen]
theorem Zk3 {P : Program} {w : World} {l : Nat} {r : Loop} (h : w.heap[l]? = some (.loop r)) (hb : r.state ≠ .busy) : (Instr.endLoop l).run P w = .ok r.pending (putB w l (.loop { r with state := .exhausted })) := by
  simp [Instr.endLoop, Sem.run_bind, ZdS h, ZfS _ h, Result.andThen, hb]
theorem run_yieldB {P : Program} {w : World} {l : Nat} {r : Loop} {args : Array Value} (h : w.heap[l]? = some (.loop r)) (hs : args.size = r.params.size) :
    (Instr.yield l args).run P w = .ok (.round l r.fn ((r.params.zip args).foldl (fun tmps (t, a) => tmps.setIfInBounds t a) r.tmps) r.assign r.body) w := by
  simp [Instr.yield, Sem.run_bind, ZdS h, Result.andThen, hs]
theorem Zjp {P : Program} (w : World) (fn : FuncId) (tmps : Array Value) (ps : Array Tmp) (assign body : Code) :
    (Instr.enterLoop fn tmps ps assign body none).run P w =
      .ok (w.heap.size + 1, [{ target := .collected w.heap.size, args := #[] }])
        ((w.alloc (.deferred (some []))).alloc (.loop { state := .ready, pending := none, fn, tmps, params := ps, assign, body, defers := w.heap.size })) := by
  unfold Instr.enterLoop;simp only [Sem.run_bind, run_newObj_alloc, Result.andThen, Sem.run_pure, World.size_alloc]
abbrev Zck (st : LSt) (ps : Array Tmp) (asg bd : Code) (envL : List D) : Option AObj := some ⟨[], 0, 0, true, some (.loop st ps asg bd envL)⟩
abbrev defsO : Option AObj := some ⟨[], 0, 0, true, some .defs⟩
section
variable {C : Ctx} {Q : Post} {ops : Array Oper} {rest : List Oper} {k : List Item} {env : List D} {H : Heap} {df : List ADef} {id : Nat} {ps : Array Tmp} {asg bd : Code} {envL : List D}
theorem SR.loopSt {L0 : Nat → Prop} {w : World} {μ : List Nat} {st st' : LSt} {b : Nat} {r r' : Loop} (hs : SR C L0 w μ H) (ho : H[id]? = some (Zck st ps asg bd envL)) (hb : μ[id]? = some b) (hw : w.heap[b]? = some (.loop r)) (h1 : r'.params = r.params) (h2 : r'.assign = r.assign) (h3 : r'.body = r.body) (h4 : r'.tmps = r.tmps) (h5 : LStR st' r') :
    SR C L0 (putB w b (.loop r')) μ (H.set id (Zck st' ps asg bd envL)) ∧ Evo w (putB w b (.loop r')) μ μ H (H.set id (Zck st' ps asg bd envL)) := by
  obtain ⟨_, r0, k1, k2, k3, k4, k5, k6⟩ := (hs.obj id _ b ho hb).spec rfl;rw [hw] at k1
  injection k1 with k1
  injection k1 with k1
  subst k1
  refine hs.putS (x' := Zck st' ps asg bd envL) ho hb rfl (by simp) fun o' e => ?_
  injection e with e
  subst e;exact ⟨rfl, rfl, rfl, .of_spec rfl ⟨rfl, r', ZhL (hs.block_lt ho hb), h1.trans k2, h2.trans k3, h3.trans k4, by rw [h4]; exact k5, h5⟩⟩
theorem ARun.beginRound (hq : Q.rd = some id) (ho : H[id]? = some (Zck .ready ps asg bd envL)) (h : ARun C Q k env (H.set id (Zck .busy ps asg bd envL)) df) : ARun C Q (.beginRound :: k) env H df := by
  refine ⟨fun L0 w0 μ0 H0 w μ a hs hv hd he b cs hrd => ?_⟩;have hrd' := hrd;rw [hq] at hrd';obtain ⟨l, hl, hbr⟩ := hrd';obtain ⟨_, r, k1, k2, k3, k4, k5, k6, k7⟩ := (hs.obj id _ l ho hl).spec rfl;have hst := stepR_beginRound (P := C.P) (b := b) (a := a) (k := k) (cs := cs) hbr (Ziv k1 k6);obtain ⟨s1, e1⟩ := hs.loopSt (st' := .busy) (r' := { r with state := .busy }) ho hl k1 rfl rfl rfl rfl ⟨rfl, k7⟩;have st := e1.step L0;obtain ⟨e, a', w', h3, h4⟩ := h.out L0 w0 μ0 H0 _ μ a s1 (VRs.step st hv) (DfR.step st hd) (he.trans e1) b cs hrd;exact ⟨e, a', w', h3, .of_steps (.one hst) h4⟩
def setL (envL : List D) : List (Nat × D) → List D
  | [] => envL
  | (t, d) :: l => setL (envL.set t d) l
theorem VRs_setL {w : World} {L : Nat → Prop} {μ : List Nat} {H : Heap} : ∀ {ps : List Tmp} {ds : List D} {vs : List Value} {envL : List D} {tmps : Array Value}, VRs w L μ H ds vs → VRs w L μ H envL tmps.toList →
    VRs w L μ H (setL envL (ps.zip ds)) ((ps.zip vs).foldl (fun (t : Array Value) (p : Tmp × Value) => t.setIfInBounds p.1 p.2) tmps).toList
  | [], ds, vs, envL, tmps, _, h => by simpa [setL] using h
  | p :: ps, [], vs, envL, tmps, h1, h => by simp only [VRs] at h1; subst h1; simpa [setL] using h
  | p :: ps, d :: ds, vs, envL, tmps, h1, h => by
    simp only [VRs] at h1;obtain ⟨v, us, rfl, h2, h3⟩ := h1;simp only [List.zip_cons_cons, setL, List.foldl_cons];refine VRs_setL h3 ?_;rw [Array.toList_setIfInBounds];exact ZiA h2 h
variable {dst : Option Tmp} {ty : TypeId} {pos : String} {aft : Array Edge} {gd : Option (Nat × Bool)} {x : Operand}
theorem AOps.yield {ds envR : List D} {args : List Operand} {tys : Array TypeId} {ps : List Tmp} (K : Option Code → Heap → Prop) (hg : gOk ops.toList env gd = some true) (hx : evO C env x = some (.yld id)) (ha : evOs C env args = some ds) (ho : H[id]? = some (Zck .ready ps.toArray asg bd envL)) (hl : ds.length = ps.length) (hR : setL envL (ps.zip ds) = envR)
    (hb : ARun C (QRound id K) [.code asg, .beginRound, .code bd] envR H []) (hbusy : ∀ j H', K j H' → H'[id]? = some (Zck .busy ps.toArray asg bd envL))
    (hk : ∀ H', K none H' → AOps C Q ops rest k (Zu env dst (.bool true)) (H'.set id (Zck .ready ps.toArray asg bd envL)) df)
    (hst : ∀ c H', K (some c) H' → AOps C Q ops rest k (Zu env dst (.bool false)) (H'.set id (Zck (.done c) ps.toArray asg bd envL)) df) :
    AOps C Q ops (⟨dst, .call ⟨.value x, args.toArray, tys⟩, ty, pos, aft, gd⟩ :: rest) k env H df := by
  subst hR;refine ⟨fun i hi => ⟨fun L0 w0 μ0 H0 w μ a hs hv hd he b cs hrd => ?_⟩⟩;obtain ⟨o, hoo⟩ : ∃ o : Oper, o = ⟨dst, .call ⟨.value x, args.toArray, tys⟩, ty, pos, aft, gd⟩ := ⟨_, rfl⟩
  have hod : o.dst = dst := by rw [hoo]
  rw [← hoo] at hi ⊢
  have hop : ops[i]? = some o := by have := Zd6 hi; simpa using this
  have hw := Zet (C := C) hv (o := o) (by rw [hoo]; exact hg);have ex := Zap hs hv hx;have ea := Zfc hs hv ha;simp only [VR] at ex;obtain ⟨l, hml, ex⟩ := ex;obtain ⟨_, r, k1, k2, k3, k4, k5, k6, k7⟩ := (hs.obj id _ l ho hml).spec rfl
  have hal : (args.map a.eval).length = ps.length := by rw [ZJ ea]; exact hl
  have hy := run_yieldB (P := C.P) (args := (args.map a.eval).toArray) k1 (by rw [k2]; simpa using hal);rw [k2, k3, k4] at hy
  have hz : (ps.toArray.zip (args.map a.eval).toArray).foldl (fun tmps (t, a) => tmps.setIfInBounds t a) r.tmps = (ps.zip (args.map a.eval)).foldl (fun (t : Array Value) (p : Tmp × Value) => t.setIfInBounds p.1 p.2) r.tmps := by
    simp [List.zip_toArray]
  rw [hz] at hy
  have hrun : (o.semAt b.roundOf a.eval).run C.P w = .ok (.round l r.fn ((ps.zip (args.map a.eval)).foldl (fun (t : Array Value) (p : Tmp × Value) => t.setIfInBounds p.1 p.2) r.tmps) asg bd) w := by
    rw [Oper.semAt_eq _ _ _ (by rw [hoo]; intro c h; cases h), hoo]
    have h1 : (args.toArray.map a.eval) = (args.map a.eval).toArray := by simp
    simp only [execOp, resolve, h1, ex, Deferred.ofValue, Sem.run_bind, Sem.run_pure, Result.andThen_ok, invoke]
    have h2 : (#[] ++ (args.map a.eval).toArray : Array Value) = (args.map a.eval).toArray := by simp
    rw [h2];exact hy
  rw [List.length_cons, List.range'_succ];have hgop := stepGR_op (P := C.P) (b := b) (k := k) (cs := cs) (w := w) (rest := List.range' (i + 1) rest.length) hop hw
  let b2 : Frame := { (default : Frame) with fn := r.fn, kind := .normal, roundOf := some l }
  let a2 : Act := { tmps := (ps.zip (args.map a.eval)).foldl (fun (t : Array Value) (p : Tmp × Value) => t.setIfInBounds p.1 p.2) r.tmps, defers := [] }
  have henter : step C.P (lone (b.atR a (.inRegion ops (i :: List.range' (i + 1) rest.length) :: k)) cs w) =
      .next (lone (b2.atR a2 [.code asg, .beginRound, .code bd]) (b.atR a (.inRegion ops (i :: List.range' (i + 1) rest.length) :: k) :: cs) w) :=
    step_lone_go (by rw [hgop]; simp [stepG.apply, hrun, Frame.atR, Frame.round, b2, a2])
  obtain ⟨e, a', w', ⟨xx, env', H', μ', df', ⟨hdf, hK⟩, s1, hv1, hd1, hx1, e1⟩, harr⟩ := hb.out L0 w μ H w μ a2 hs (VRs_setL ea k5) rfl (Evo.refl _ _ _) b2 (b.atR a (.inRegion ops (i :: List.range' (i + 1) rest.length) :: k) :: cs) ⟨l, hml, rfl⟩;have hml' := e1.map _ _ hml
  have fin : ∀ (jump : Option Code) (st' : LSt), K jump H' → (∀ r' : Loop, LStR .busy r' → LStR st' { r' with state := if jump.isNone then .ready else .done, pending := jump }) →
      AOps C Q ops rest k (Zu env dst (.bool jump.isNone)) (H'.set id (Zck st' ps.toArray asg bd envL)) df →
      ∃ w2, (Instr.endRound l jump).run C.P w' = .ok (.bool jump.isNone) w2 ∧ ∃ e a' w'', QRel C L0 w0 μ0 H0 Q e a' w'' ∧ ArrR C.P (lone ((b.atR a (.inRegion ops (i :: List.range' (i + 1) rest.length) :: k)).finish (.bool jump.isNone)) cs w2) b cs e a' w'' := by
    intro jump st' hj hst' hrest;have hbz := hbusy _ _ hj;obtain ⟨_, r', q1, q2, q3, q4, q5, q6⟩ := (s1.obj id _ l hbz hml').spec rfl;obtain ⟨s2, e2⟩ := s1.loopSt (st' := st') (r' := { r' with state := if jump.isNone then .ready else .done, pending := jump }) hbz hml' q1 rfl rfl rfl rfl (hst' r' q6);refine ⟨_, ZjY jump q1, ?_⟩;have e12 := e1.trans e2;have st := e12.step L0;rw [Frame.finish_atR, hop, Option.bind_some, hod];obtain ⟨e, a', w', h3, h4⟩ := (hrest.out (i + 1) (Zda hi)).out L0 w0 μ0 H0 _ μ' (a.put dst (.bool jump.isNone)) s2 (ZbL (VRs.step st hv) (by simp only [VR])) (by rw [ZaB]; exact DfR.step st hd) (he.trans e12) b cs (hrd.step e12.map);exact ⟨e, a', w', h3, h4⟩
  cases xx with
  | norm =>
    have hx2 : e = .normal := hx1;subst hx2;obtain ⟨w2, r1, e2, a3, w3, h3, h4⟩ := fin none .ready hK (fun r' h => ⟨rfl, rfl⟩) (hk H' hK);exact ⟨e2, a3, w3, h3, .of_steps (.head henter (Steps.trans harr (.one (stepR_round_end rfl rfl r1)))) h4⟩
  | ret =>
    have hx2 : e = .ret := hx1;subst hx2;obtain ⟨kk, hst2⟩ := harr;obtain ⟨w2, r1, e2, a3, w3, h3, h4⟩ := fin (some .ret) (.done .ret) hK (fun r' h => ⟨rfl, rfl⟩) (hst _ H' hK);exact ⟨e2, a3, w3, h3, .of_steps (.head henter (Steps.trans hst2 (.one (stepR_round_ret rfl rfl r1)))) h4⟩
  | exit j =>
    have hx2 : e = .exit j := hx1;subst hx2;obtain ⟨kk, hkk, hst2⟩ := harr;obtain ⟨w2, r1, e2, a3, w3, h3, h4⟩ := fin (some (.exit j)) (.done (.exit j)) hK (fun r' h => ⟨rfl, rfl⟩) (hst _ H' hK);exact ⟨e2, a3, w3, h3, .of_steps (.head henter (Steps.trans hst2 (.one (stepR_round_exit rfl rfl hkk r1)))) h4⟩
  | pan d => exact hK.elim
theorem step_rangeF {P : Program} {b : Frame} {a : Act} {k : List Item} {cs : List Frame} {w : World} {g : Operand} {ps : Array Tmp} {assign body : Code} {l : Nat} {mark : List Deferred} {w₁ w₂ : World} {f : FuncId} {lb args : Array Value}
    (he : (Instr.enterLoop b.fn a.tmps ps assign body b.roundOf).run P w = .ok (l, mark) w₁) (hg : a.eval g = .func (.func f) #[] lb) (hf : (callFunc f (#[.func (.yield l) #[] #[]] ++ lb)).run P w₁ = .ok (.enter f args) w₂) :
    step P (lone (b.atR a (.code (.rangeFunc g ps assign body) :: k)) cs w) =
      .next (lone (Frame.enter P f args .normal) (b.atR { a with defers := mark ++ a.defers } (.inRangeFunc l :: k) :: cs) w₂) :=
  step_lone_go (by
    have hev := Frame.eval_atR b { a with defers := mark ++ a.defers } (.inRangeFunc l :: k);simp only [Frame.atR] at hev
    have hg' : ({ tmps := a.tmps, defers := mark ++ a.defers } : Act).eval g = .func (.func f) #[] lb := by rw [← hg]; cases g <;> rfl
    have hc : ∀ w, Sem.run P (resolve ({ tmps := a.tmps, defers := mark ++ a.defers } : Act).eval { callee := .value g, args := #[.const (.func (.yield l) #[] #[])], argTypes := #[] } 0) w = .ok { target := .fn (.func f) lb, args := #[.func (.yield l) #[] #[]] } w := by
      intro w;simp only [resolve, hg'];simp [Deferred.ofValue, Act.eval]
    have hi : (invoke (.fn (.func f) lb) #[.func (.yield l) #[] #[]]).run P w₁ = .ok (.enter f args) w₂ := by simpa [invoke] using hf
    simp [stepG, stepG.exec, Frame.atR, Sem.runT_eq, he, GStep.bare_after, stepG.apply, hev, Sem.run_bind, hc, hi, Result.andThen])
theorem Zjq {P : Program} {b : Frame} {a : Act} {k : List Item} {cs : List Frame} {w w' : World} {l : Nat} {jump : Option Code} (h : (Instr.endLoop l).run P w = .ok jump w') :
    step P (lone (b.atR a (.endRangeFunc l :: k)) cs w) = .next (lone (b.atR a ((jump.map Item.code).toList ++ k)) cs w') :=
  step_lone_go (by simp [stepG, stepG.exec, Frame.atR, Sem.runT_eq, h, GStep.bare_after])
theorem Zn1 {g : Operand} {gf : FuncId} {caps : List D} {n : Nat} {R : Out → Heap → Prop} (hrn : Q.rd = none) (hx : evO C env g = some (.clos gf caps)) (hn : H.length = n)
    (hc : HC C gf (H ++ [defsO] ++ [Zck .ready ps asg bd env]) (.yld (n + 1) :: caps) R)
    (hk : ∀ d H2, R (.ret d) H2 → ∃ st, H2[n + 1]? = some (Zck st ps asg bd env) ∧ match st with
      | .ready => ARun C Q k env (H2.set (n + 1) none) (.col n :: df)
      | .done c => ARun C Q (.code c :: k) env (H2.set (n + 1) none) (.col n :: df)
      | .busy => False)
    (hp : ∀ d H2, R (.pan d) H2 → Q (.pan d) env H2 (.col n :: df)) : ARun C Q (.code (.rangeFunc g ps asg bd) :: k) env H df := by
  subst hn;refine ⟨fun L0 w0 μ0 H0 w μ a hs hv hd he b cs hrd => ?_⟩
  have hro : b.roundOf = none := by rw [hrn] at hrd; exact hrd
  have ex := Zap hs hv hx;simp only [VR] at ex;obtain ⟨cvs, ex, ec⟩ := ex;obtain ⟨s1, e1⟩ := hs.pushO (ob := .deferred (some [])) (o := ⟨[], 0, 0, true, some .defs⟩) (.of_spec rfl ⟨rfl, heap_alloc_new w _⟩);have st1 := e1.step L0
  have hlen1 : (μ ++ [w.heap.size]).length = H.length + 1 := by simp [hs.len]
  obtain ⟨rec, hrec⟩ : ∃ rec : Loop, rec = { state := .ready, pending := none, fn := b.fn, tmps := a.tmps, params := ps, assign := asg, body := bd, defers := w.heap.size } := ⟨_, rfl⟩;obtain ⟨s2, e2⟩ := s1.pushO (ob := .loop rec) (o := ⟨[], 0, 0, true, some (.loop .ready ps asg bd env)⟩) (.of_spec rfl ⟨rfl, rec, heap_alloc_new _ _, by rw [hrec], by rw [hrec], by rw [hrec], by rw [hrec]; exact VRs.step st1 hv, by rw [hrec]; exact ⟨rfl, rfl⟩⟩);have e12 := e1.trans e2;have st2 := e12.step L0
  have hsz : (w.alloc (.deferred (some []))).heap.size = w.heap.size + 1 := by simp
  rw [hsz] at s2 e2 e12 st2
  have hml : (μ ++ [w.heap.size] ++ [w.heap.size + 1])[H.length + 1]? = some (w.heap.size + 1) := by
    rw [List.getElem?_append_right (by rw [hlen1]; exact Nat.le_refl _), hlen1]; simp
  have hmc : (μ ++ [w.heap.size] ++ [w.heap.size + 1])[H.length]? = some w.heap.size := by
    rw [List.getElem?_append_left (by rw [hlen1]; omega), ← hs.len]; simp
  have hargs := VRs.step st2 ec
  have hyl : VR ((w.alloc (.deferred (some []))).alloc (.loop rec)) (forb L0 (μ ++ [w.heap.size] ++ [w.heap.size + 1]) (H ++ [defsO] ++ [Zck .ready ps asg bd env])) (μ ++ [w.heap.size] ++ [w.heap.size + 1]) (H ++ [defsO] ++ [Zck .ready ps asg bd env]) (.yld (H.length + 1)) (.func (.yield (w.heap.size + 1)) #[] #[]) := by
    simp only [VR];exact ⟨_, hml, rfl⟩
  have hcall := hc.2 L0 _ _ (.func (.yield (w.heap.size + 1)) #[] #[] :: cvs) s2 (by simp only [VRs]; exact ⟨_, _, rfl, hyl, hargs⟩);have henter := step_rangeF (P := C.P) (b := b) (a := a) (k := k) (cs := cs) (w := w) (g := g) (ps := ps) (assign := asg) (body := bd) (by rw [hro]; exact Zjp w b.fn a.tmps ps asg bd) ex (hc.1 _ _);rw [← hrec] at henter
  have harr : (#[.func (.yield (w.heap.size + 1)) #[] #[]] ++ cvs.toArray : Array Value) = (.func (.yield (w.heap.size + 1)) #[] #[] :: cvs).toArray := by simp
  rw [harr] at henter
  let a2 : Act := { a with defers := [{ target := .collected w.heap.size, args := #[] }] ++ a.defers }
  obtain ⟨e, w', fr, ⟨o, H2, μ2, hR, s3, hO, e3⟩, hcomes, hfn, hleave⟩ := hcall (b.atR a2 (.inRangeFunc (w.heap.size + 1) :: k) :: cs);have st3 := e3.step L0;have e13 := e12.trans e3
  have hd2 : DfR w' (forb L0 μ2 H2) μ2 H2 (.col H.length :: df) a2.defers := by
    simp only [DfR];exact ⟨w.heap.size, a.defers, rfl, e3.map _ _ hmc, DfR.step (e13.step L0) hd⟩
  cases o with
  | ret d =>
    obtain ⟨v, rfl, hvd⟩ := hO;obtain ⟨st, hst, hcont⟩ := hk d H2 hR;have hback := step_leave_returned (c := b.atR a2 (.inRangeFunc (w.heap.size + 1) :: k)) (cs := cs) hleave
    have hfin : (b.atR a2 (.inRangeFunc (w.heap.size + 1) :: k)).finish v = b.atR a2 (.endRangeFunc (w.heap.size + 1) :: k) := by
      simp [Frame.finish, Frame.atR]
    rw [hfin] at hback;have hml2 := e3.map _ _ hml;obtain ⟨_, r, q1, q2, q3, q4, q5, q6⟩ := (s3.obj _ _ _ hst hml2).spec rfl
    have go : ∀ (jump : Option Code), r.pending = jump → r.state ≠ .busy → ARun C Q ((jump.map Item.code).toList ++ k) env (H2.set (H.length + 1) none) (.col H.length :: df) →
        ∃ e a' w', QRel C L0 w0 μ0 H0 Q e a' w' ∧ ArrR C.P (lone (b.atR a (.code (.rangeFunc g ps asg bd) :: k)) cs w) b cs e a' w' := by
      intro jump hj hnb hrun
      have hend : (Instr.endLoop (w.heap.size + 1)).run C.P w' = .ok jump (putB w' (w.heap.size + 1) (.loop { r with state := .exhausted })) := by rw [Zk3 q1 hnb, hj]
      obtain ⟨s4, e4⟩ := s3.putS (x' := none) (ob := .loop { r with state := .exhausted }) hst hml2 rfl (by simp) (fun o' h => by cases h);have e14 := e13.trans e4;obtain ⟨e, a', w'', h3, h4⟩ := hrun.out L0 w0 μ0 H0 _ μ2 a2 s4 (VRs.step (e14.step L0) hv) (DfR.step (e4.step L0) hd2) (he.trans e14) b cs (hrd.step e14.map);exact ⟨e, a', w'', h3, .of_steps (.head henter (Steps.trans hcomes (.head hback (.one (Zjq hend))))) h4⟩
    cases st with
    | ready => exact go none q6.2 (by rw [q6.1]; simp) hcont
    | done c => exact go (some c) q6.2 (by rw [q6.1]; simp) hcont
    | busy => exact hcont.elim
  | pan d =>
    obtain ⟨v, rfl, hvd⟩ := hO;have hback := step_leave_panicked (c := b.atR a2 (.inRangeFunc (w.heap.size + 1) :: k)) (cs := cs) hleave;rw [Frame.raise_atR] at hback;exact ⟨.panic (pan1 v), a2, w', ⟨.pan d, env, H2, μ2, _, hp d H2 hR, s3, VRs.step (e13.step L0) hv, hd2, ⟨v, rfl, hvd⟩, he.trans e13⟩, _, .head henter (Steps.trans hcomes (.one hback))⟩
end
abbrev mapO (es : List (D × D)) : Option AObj := some ⟨[], 0, 0, true, some (.map es)⟩
def ZeR (k : IntKind) (n : Int) : List (D × D) → Option (Option D)
  | [] => some none
  | (.int k' m, v) :: es => bif decide (k = k') then (bif n == m then some (some v) else ZeR k n es) else none
  | _ :: _ => none
theorem Zfh {w : World} {L : Nat → Prop} {μ : List Nat} {H : Heap} {k : IntKind} {n : Int} : ∀ {es : List (D × D)} {r : Option D} {l : List MapEntry} (i : Nat), ZeR k n es = some r → VRs w L μ H (es.map (·.1)) (l.map (·.key)) → VRs w L μ H (es.map (·.2)) (l.map (·.val)) →
    match r with
    | none => Instr.findNow (.int k) (.int k n) l i = some none
    | some d => ∃ j v, Instr.findNow (.int k) (.int k n) l i = some (some (j, v)) ∧ VR w L μ H d v
  | [], r, l, i, h, h1, _ => by
    simp only [ZeR] at h
    injection h with h
    subst h;simp only [List.map_nil, VRs] at h1;have : l = [] := List.map_eq_nil_iff.1 h1;subst this;rfl
  | (d, v) :: es, r, [], i, h, h1, _ => by simp [VRs] at h1
  | (d, v) :: es, r, e :: l, i, h, h1, h2 => by
    simp only [List.map_cons, VRs] at h1 h2;obtain ⟨v1, us1, e1, k1, k2⟩ := h1;obtain ⟨v2, us2, e2, m1, m2⟩ := h2
    injection e1 with e1 e1'
    injection e2 with e2 e2'
    subst e1; subst e2; subst e1'; subst e2'
    cases d <;> simp only [ZeR] at h <;> try (cases h; done)
    rename_i k' m
    simp only [VR] at k1
    by_cases hk : k = k'
    · subst hk
      simp only [decide_true, cond_true] at h
      by_cases hn : n = m
      · subst hn
        simp only [beq_self_eq_true, cond_true] at h
        injection h with h
        subst h;refine ⟨i, e.val, ?_, m1⟩;simp [Instr.findNow, Instr.sameNow, k1]
      have hb : (n == m) = false := by simpa using hn
      rw [hb] at h;simp only [cond_false] at h;have := Zfh (i + 1) h k2 m2
      have hs : Instr.findNow (.int k) (.int k n) (e :: l) i = Instr.findNow (.int k) (.int k n) l (i + 1) := by
        simp [Instr.findNow, Instr.sameNow, k1, hb]
      rw [hs];exact this
    simp [hk] at h
def keyNs (k : IntKind) : List D → Option (List Int)
  | [] => some []
  | .int k' m :: ds => if k' = k then (keyNs k ds).map (m :: ·) else none
  | _ :: _ => none
def keysI (k : IntKind) (ks : List D) : Bool := match keyNs k ks with
  | some ns => decide ns.Nodup
  | none => false
theorem keyNs_ok {w : World} {L : Nat → Prop} {μ : List Nat} {H : Heap} {k : IntKind} : ∀ {ks : List D} {ns : List Int} {vs : List Value}, keyNs k ks = some ns → VRs w L μ H ks vs → vs = ns.map (Value.int k)
  | [], ns, vs, h, hv => by simp only [keyNs] at h; injection h with h; subst h; simp only [VRs] at hv; rw [hv]; rfl
  | d :: ds, ns, vs, h, hv => by
    cases d <;> simp only [keyNs] at h <;> try (cases h; done)
    split at h
    · rename_i e; subst e
      rw [Option.map_eq_some_iff] at h;obtain ⟨ns', h1, rfl⟩ := h;simp only [VRs, VR] at hv;obtain ⟨v, us, rfl, rfl, h3⟩ := hv;rw [keyNs_ok h1 h3]; rfl
    cases h
theorem Zeo {k : IntKind} {n : Int} : ∀ (l : List MapEntry) (i : Nat), (∀ e ∈ l, ∃ m, e.key = .int k m) → (∃ e ∈ l, e.key = .int k n) → ∃ j e, e ∈ l ∧ e.key = .int k n ∧ Instr.findNow (.int k) (.int k n) l i = some (some (j, e.val))
  | [], i, _, h => by obtain ⟨e, h, _⟩ := h; cases h
  | e :: l, i, ha, h => by
    obtain ⟨m, hm⟩ := ha e (by simp)
    by_cases hn : n = m
    · subst hn
      exact ⟨i, e, by simp, hm, by simp [Instr.findNow, Instr.sameNow, hm]⟩
    have hb : (n == m) = false := by simpa using hn
    have h' : ∃ e ∈ l, e.key = .int k n := by
      obtain ⟨e', h1, h2⟩ := h
      rcases List.mem_cons.1 h1 with rfl | h1
      · rw [hm] at h2; injection h2 with _ h2; exact absurd h2.symm hn
      exact ⟨e', h1, h2⟩
    obtain ⟨j, e', h1, h2, h3⟩ := Zeo l (i + 1) (fun e h => ha e (List.mem_cons_of_mem _ h)) h';exact ⟨j, e', List.mem_cons_of_mem _ h1, h2, by rw [← h3]; simp [Instr.findNow, Instr.sameNow, hm, hb]⟩
theorem ZgM {k : IntKind} {n : Int} : ∀ (l : List MapEntry) (i : Nat), (∀ e ∈ l, ∃ m, e.key = .int k m ∧ m ≠ n) → Instr.findNow (.int k) (.int k n) l i = some none
  | [], i, _ => rfl
  | e :: l, i, ha => by
    obtain ⟨m, hm, hne⟩ := ha e (by simp)
    have hb : (n == m) = false := by simpa using fun h => hne h.symm
    rw [← ZgM l (i + 1) (fun e h => ha e (List.mem_cons_of_mem _ h))];simp [Instr.findNow, Instr.sameNow, hm, hb]
theorem Zhd {α : Type} : ∀ {l : List α} {i j : Nat} {hi : i < l.length} {hj : j < l.length}, l.Nodup → l[i] = l[j] → i = j
  | a :: l, 0, 0, _, _, _, _ => rfl
  | a :: l, 0, j + 1, _, hj, hn, e => by
    rw [List.nodup_cons] at hn;exact absurd (show a ∈ l by rw [show a = l[j]'(by simpa using hj) from e]; exact List.getElem_mem _) hn.1
  | a :: l, i + 1, 0, hi, _, hn, e => by
    rw [List.nodup_cons] at hn;exact absurd (show a ∈ l by rw [show a = l[i]'(by simpa using hi) from e.symm]; exact List.getElem_mem _) hn.1
  | a :: l, i + 1, j + 1, hi, hj, hn, e => by
    rw [List.nodup_cons] at hn;rw [Zhd (l := l) (hi := by simpa using hi) (hj := by simpa using hj) hn.2 e]
theorem Zhe {w : World} {L : Nat → Prop} {μ : List Nat} {H : Heap} {k : IntKind} {n : Int} {ks us : List D} {r : Option D} {l m : List MapEntry} (hl : ks.length = us.length) (hf : ZeR k n (ks.zip us) = some r) (h1 : VRs w L μ H ks (l.map (·.key))) (h2 : VRs w L μ H us (l.map (·.val))) (hp : l.Perm m) (hd : keysI k ks = true) :
    match r with
    | none => Instr.findNow (.int k) (.int k n) m 0 = some none
    | some d => ∃ j v, Instr.findNow (.int k) (.int k n) m 0 = some (some (j, v)) ∧ VR w L μ H d v := by
  unfold keysI at hd
  split at hd
  · rename_i ns hns
    have hk := keyNs_ok hns h1;have hnd := Zh hd
    have hint : ∀ e ∈ l, ∃ q, e.key = .int k q := fun e he => by
      have : e.key ∈ l.map (·.key) := List.mem_map_of_mem he;rw [hk, List.mem_map] at this;obtain ⟨q, _, hq⟩ := this;exact ⟨q, hq.symm⟩
    have hfn := Zfh 0 hf (by rw [List.map_fst_zip (by omega)]; exact h1) (by rw [List.map_snd_zip (by omega)]; exact h2)
    cases r with
    | none =>
      simp only at hfn ⊢;apply ZgM;intro e he;have he := hp.mem_iff.2 he;obtain ⟨q, hq⟩ := hint e he;refine ⟨q, hq, fun hqn => ?_⟩;subst hqn;obtain ⟨j, e', _, _, h⟩ := Zeo l 0 hint ⟨e, he, hq⟩;rw [hfn] at h; cases h
    | some d =>
      simp only at hfn ⊢;obtain ⟨j, v, hfn, hv⟩ := hfn
      have hex : ∃ e ∈ l, e.key = .int k n := Classical.byContradiction fun hno => by
        have := ZgM (k := k) (n := n) l 0 (fun e he => by
          obtain ⟨q, hq⟩ := hint e he
          exact ⟨q, hq, fun hqn => hno ⟨e, he, by rw [hq, hqn]⟩⟩)
        rw [hfn] at this; cases this
      obtain ⟨j1, e1, a1, a2, a3⟩ := Zeo l 0 hint hex;rw [hfn] at a3
      injection a3 with a3; injection a3 with a3; injection a3 with a3 a4
      obtain ⟨j2, e2, b1, b2, b3⟩ := Zeo (k := k) (n := n) m 0 (fun e he => hint e (hp.mem_iff.2 he)) (by obtain ⟨e, he, hq⟩ := hex; exact ⟨e, hp.mem_iff.1 he, hq⟩);have b1 := hp.mem_iff.2 b1
      have hee : e1 = e2 := by
        obtain ⟨x, hx, ex⟩ := List.getElem_of_mem a1;obtain ⟨y, hy, ey⟩ := List.getElem_of_mem b1
        have hlen : l.length = ns.length := by have := congrArg List.length hk; simpa using this
        have gx : ns[x]'(by omega) = n := by
          have : (l.map (·.key))[x]'(by simpa using hx) = (ns.map (Value.int k))[x]'(by simp; omega) := by simp only [hk]
          simp only [List.getElem_map] at this
          rw [ex, a2] at this; injection this with _ this; exact this.symm
        have gy : ns[y]'(by omega) = n := by
          have : (l.map (·.key))[y]'(by simpa using hy) = (ns.map (Value.int k))[y]'(by simp; omega) := by simp only [hk]
          simp only [List.getElem_map] at this
          rw [ey, b2] at this; injection this with _ this; exact this.symm
        have hxy : x = y := Zhd hnd (gx.trans gy.symm);subst hxy;exact ex.symm.trans ey
      subst hee;exact ⟨j2, e1.val, b3, by rw [← a4]; exact hv⟩
  cases hd
section
variable {C : Ctx} {env : List D} {H H' : Heap} {dst : Option Tmp} {ty : TypeId} {pos : String} {aft : Array Edge} {gd : Option (Nat × Bool)} {x y z : Operand} {d : D} {T kt et : TypeId} {te : TE}
theorem ZeI {i : Nat} {r : Option Operand} (hm : C.P.underlying T = some (.map kt et)) (hr : r = none ∨ ∃ k n, r = some (.const (.int k n))) [ap : AppL H (mapO []) i H'] : OpN C ⟨dst, .makeMap T r, ty, pos, aft, gd⟩ env H (.mapp i) H' := by
  rw [← ap.len, ← ap.eq];refine ⟨fun L0 w μ a hs hv => ?_⟩
  have hrun : (execOp a.eval ⟨dst, .makeMap T r, ty, pos, aft, gd⟩).run C.P w = .ok (.value (.map (some w.heap.size))) (w.alloc (.map #[] 0)) := by
    rcases hr with rfl | ⟨k, n, rfl⟩
    · simp only [execOp, Option.map_none, Instr.makeMap, Sem.run_bind, run_newObj_alloc, Result.andThen_ok, Sem.run_pure]
    simp only [execOp, Option.map_some, Act.eval, Instr.makeMap, Sem.run_bind, run_underlying hm, Result.andThen_ok, asInt, asIntOf, Sem.run_pure, run_newObj_alloc]
  unfold Oper.wp;rw [hrun];obtain ⟨s1, e1⟩ := hs.pushO (ob := .map #[] 0) (o := ⟨[], 0, 0, true, some (.map [])⟩) (.of_spec rfl ⟨rfl, #[], 0, heap_alloc_new w _, by simp [VRs], by simp [VRs]⟩);refine ⟨_, .mapp H.length, _, _, ⟨rfl, rfl⟩, rfl, s1, ?_, e1⟩;simp only [VR];exact ⟨w.heap.size, by rw [← hs.len]; simp, rfl⟩
theorem ZaJ {P : Program} {w : World} {kt : TypeId} {k : IntKind} {n : Int} {b : Bool} (hk : P.underlying kt = some (.int k)) : (Instr.checkKey b 10000 kt (.int k n)).run P w = .ok () w := by
  rw [show (10000 : Nat) = 9999 + 1 from rfl];unfold Instr.checkKey;simp only [Sem.run_bind, run_underlying hk, Result.andThen_ok];rfl
theorem ZbM {P : Program} {w : World} {kt : TypeId} {d : TypeDesc} {k : Value} {l : List MapEntry} {a : Option (Nat × Value)} (hd : P.underlying kt = some d) (h : Instr.findNow d k l 0 = some a) : (Instr.findKey kt k l).run P w = .ok a w := by
  simp [Instr.findKey, run_underlying hd, Result.andThen, h]
theorem Zaq {i : Nat} {k : IntKind} {n : Int} {es : List (D × D)} {op : Op} (hop : op = .insert T x y z ∨ op = .mapUpdate T x y z) (hm : C.P.underlying T = some (.map kt et)) (hk : C.P.underlying kt = some (.int k)) (hx : evO C env x = some (.mapp i)) (hy : evO C env y = some (.int k n)) (hz : evO C env z = some d) (ho : H[i]? = some (mapO es)) (hf : ZeR k n es = some none)
    [pl : PutL H i (mapO (es ++ [(.int k n, d)])) H'] : OpN C ⟨dst, op, ty, pos, aft, gd⟩ env H (.tup []) H' := by
  rw [← pl.eq];refine ⟨fun L0 w μ a hs hv => ?_⟩;have ex := Zap hs hv hx;have ey := Zap hs hv hy;have ez := Zap hs hv hz;simp only [VR] at ex ey;obtain ⟨b, hb, ex⟩ := ex;obtain ⟨_, ea, clock, k1, k2, k3⟩ := (hs.obj i _ b ho hb).spec rfl;have hfn := Zfh 0 hf k2 k3;simp only at hfn
  have hrun : (execOp a.eval ⟨dst, op, ty, pos, aft, gd⟩).run C.P w = .ok .skip (putB w b (.map (ea.push { key := .int k n, val := a.eval z, born := clock }) (clock + 1))) := by
    have hmu : (Instr.mapUpdate T (.map (some b)) (.int k n) (a.eval z)).run C.P w = .ok () (putB w b (.map (ea.push { key := .int k n, val := a.eval z, born := clock }) (clock + 1))) := by
      have hg : (getObj b).run C.P w = .ok (.map ea clock) w := by simp [getObj, Sem.run, k1]
      have hset : ∀ o, (setObj b o).run C.P w = .ok () (putB w b o) := by intro o; simp [setObj, Sem.run, k1, putB]
      simp only [Instr.mapUpdate, Sem.run_bind, run_underlying hm, Result.andThen_ok, hg, ZaJ hk, ZbM hk hfn, hset]
    rcases hop with rfl | rfl <;> simp only [execOp, ex, ey, Sem.run_bind, hmu, Result.andThen_ok, Sem.run_pure]
  unfold Oper.wp;rw [hrun]
  obtain ⟨s1, e1⟩ := hs.putS (x' := mapO (es ++ [(.int k n, d)])) (ob := .map (ea.push { key := .int k n, val := a.eval z, born := clock }) (clock + 1)) ho hb rfl (by simp) fun o' e => by
    injection e with e
    subst e;refine ⟨rfl, rfl, rfl, .of_spec rfl ⟨rfl, _, _, ZhL (hs.block_lt ho hb), ?_, ?_⟩⟩
    · simp only [List.map_append, List.map_cons, List.map_nil, Array.toList_push]
      exact Zbt k2 (by simp only [VRs]; exact ⟨_, _, rfl, by simp only [VR], rfl⟩)
    simp only [List.map_append, List.map_cons, List.map_nil, Array.toList_push];exact Zbt k3 (by simp only [VRs]; exact ⟨_, _, rfl, ez, rfl⟩)
  exact ⟨undef, .tup [], _, μ, ⟨rfl, rfl⟩, rfl, s1, by simp only [VR]; exact ⟨[], rfl, by simp [VRs]⟩, e1⟩
def lookD (zero : D) : Option D → D
  | some d => .tup [d, .bool true]
  | none => .tup [zero, .bool false]
theorem ZmQ {i : Nat} {k : IntKind} {n : Int} {es : List (D × D)} {r : Option D} {dz : D} (hm : C.P.underlying T = some (.map kt et)) (hk : C.P.underlying kt = some (.int k)) (hte : C.ty et = some te) (hdz : Zas te.zero = some dz) (hx : evO C env x = some (.mapp i)) (hy : evO C env y = some (.int k n)) (ho : H[i]? = some (mapO es)) (hf : ZeR k n es = some r) :
    OpQ C ⟨dst, .lookup T x y true, ty, pos, aft, gd⟩ env H (lookD dz r) :=
  ZnE fun L0 w μ a hs he => by
    have ex := he _ _ hx;have ey := he _ _ hy;simp only [VR] at ex ey;obtain ⟨b, hb, ex⟩ := ex;obtain ⟨_, ea, clock, k1, k2, k3⟩ := (hs.obj i _ b ho hb).spec rfl;have hfn := Zfh 0 hf k2 k3
    have hg : (getObj b).run C.P w = .ok (.map ea clock) w := by simp [getObj, Sem.run, k1]
    cases r with
    | none =>
      simp only at hfn;refine ⟨.tuple #[te.zero, .bool false], ?_, by simp only [lookD, VR, VRs]; exact ⟨[te.zero, .bool false], rfl, _, _, rfl, ZaZ hdz, _, _, rfl, rfl, rfl⟩⟩;simp only [execOp, ex, ey, Instr.lookup, Sem.run_bind, run_underlying hm, Result.andThen_ok, hg, Sem.run_pure, ZaJ hk, ZbM hk hfn, (ZU hte).1.run_zero, if_true]
    | some d =>
      simp only at hfn;obtain ⟨j, v, hfn, hvd⟩ := hfn;refine ⟨.tuple #[v, .bool true], ?_, by simp only [lookD, VR, VRs]; exact ⟨[v, .bool true], rfl, _, _, rfl, hvd, _, _, rfl, rfl, rfl⟩⟩;simp only [execOp, ex, ey, Instr.lookup, Sem.run_bind, run_underlying hm, Result.andThen_ok, hg, Sem.run_pure, ZaJ hk, ZbM hk hfn, if_true]
theorem Zmm {k : IntKind} {n : Int} {ks us : List D} {r : Option D} {dz : D} (hm : C.P.underlying T = some (.map kt et)) (hk : C.P.underlying kt = some (.int k)) (hte : C.ty et = some te) (hdz : Zas te.zero = some dz) (hx : evO C env x = some (.mapv ks us)) (hy : evO C env y = some (.int k n)) (hl : ks.length = us.length) (hf : ZeR k n (ks.zip us) = some r) (hd : keysI k ks = true := by rfl) :
    OpQ C ⟨dst, .lookup T x y true, ty, pos, aft, gd⟩ env H (lookD dz r) :=
  ZnE fun L0 w μ a hs he => by
    have ex := he _ _ hx;have ey := he _ _ hy;simp only [VR] at ex ey;obtain ⟨b, ea, clock, ex, _, _, k1, l, hp, k2, k3⟩ := ex;have hfn := Zhe hl hf k2 k3 hp hd
    have hg : (getObj b).run C.P w = .ok (.map ea clock) w := by simp [getObj, Sem.run, k1]
    cases r with
    | none =>
      simp only at hfn;refine ⟨.tuple #[te.zero, .bool false], ?_, by simp only [lookD, VR, VRs]; exact ⟨[te.zero, .bool false], rfl, _, _, rfl, ZaZ hdz, _, _, rfl, rfl, rfl⟩⟩;simp only [execOp, ex, ey, Instr.lookup, Sem.run_bind, run_underlying hm, Result.andThen_ok, hg, Sem.run_pure, ZaJ hk, ZbM hk hfn, (ZU hte).1.run_zero, if_true]
    | some d =>
      simp only at hfn;obtain ⟨j, v, hfn, hvd⟩ := hfn;refine ⟨.tuple #[v, .bool true], ?_, by simp only [lookD, VR, VRs]; exact ⟨[v, .bool true], rfl, _, _, rfl, VR.lift hvd, _, _, rfl, rfl, rfl⟩⟩;simp only [execOp, ex, ey, Instr.lookup, Sem.run_bind, run_underlying hm, Result.andThen_ok, hg, Sem.run_pure, ZaJ hk, ZbM hk hfn, if_true]
end
section
variable {C : Ctx} {env : List D} {H H' : Heap} {dst : Option Tmp} {ty : TypeId} {pos : String} {aft : Array Edge} {gd : Option (Nat × Bool)} {x y z : Operand} {d : D} {T e : TypeId} {te : TE}
def ZbV (l : List Nat) : ByteArray := ⟨(l.map UInt8.ofNat).toArray⟩
theorem Zjr : ∀ (l : List Nat) (s : ByteArray), ((l.map fun (n : Nat) => (n : Int)).foldl (fun r n => r.push (UInt8.ofNat n.toNat)) s) = s ++ ZbV l
  | [], s => by
    apply ByteArray.ext;simp [ZbV]
  | n :: l, s => by
    simp only [List.map_cons, List.foldl_cons];rw [Zjr l];apply ByteArray.ext;simp [ZbV]
theorem ZlL {n S b S' b' : Nat} {l : List Nat} {src : TypeId} {zv zv' : Value} {dv : D} (hs : C.ty src = some ⟨.slice e, S, b, zv⟩) (he8 : C.P.underlying e = some (.int .u8)) (ht : C.ty T = some ⟨.str, S', b', zv'⟩) (hx : evO C env x = some dv) (hv : srcD H dv = some (n, nts .u8 l)) (hl : l.length = n) :
    OpQ C ⟨dst, .convert src T x, ty, pos, aft, gd⟩ env H (.str (ZbV l)) :=
  ZnE fun L0 w μ a hsr he => by
    have ex := he _ _ hx;obtain ⟨ay, cap, ex, hmc, hnews⟩ := ZiD hsr hv ex;refine ⟨.string (ZbV l), ?_, by simp only [VR]⟩;have hconv := run_convert_bytes_string (P := C.P) w src T e ay n cap (Zax hs) he8 (ty_str ht);simp only [execOp, ex, Sem.run_bind, hconv]
    cases l with
    | nil =>
      simp only [List.length_nil] at hl;subst hl
      cases ay with
      | none => simp [Conv.bytesToString, ZbV]; rfl
      | some ad =>
        have hlc : (loadCells ad 0).run C.P w = .ok ((([] : List Int).map (Value.int .u8)).toArray) w := by
          obtain ⟨us, r1, r2⟩ := Zc2 (P := C.P) (w := w) (L := forb L0 μ H) (μ := μ) (H := H) (ad := ad) (cs := []) (fun j d' hd' => by simp at hd');simp only [VRs] at r2;subst r2;exact r1
        rw [run_bytesToString w ad 0 cap [] hlc];rfl
    | cons c cs =>
      obtain ⟨ad, rfl, vs, hvl, hvr, hvc, _⟩ := hnews (by simp [nts])
      have hlc : (loadCells ad n).run C.P w = .ok ((((c :: cs).map fun (n : Nat) => (n : Int)).map (Value.int .u8)).toArray) w := by
        obtain ⟨us, r1, r2⟩ := Zc2 (P := C.P) (w := w) (L := forb L0 μ H) (μ := μ) (H := H) (ad := ad) (cs := nts .u8 (c :: cs)) (fun j d' hd' => by
          obtain ⟨v, k1, k2⟩ := Z2 hvr hd'
          exact ⟨v, hvc j v k1, k2⟩)
        have hus : us = ((c :: cs).map fun (n : Nat) => (n : Int)).map (Value.int .u8) := by
          have key : ∀ (xs : List Nat) (vs : List Value), VRs w (forb L0 μ H) μ H (nts .u8 xs) vs → vs = (xs.map fun (n : Nat) => (n : Int)).map (Value.int .u8) := by
            intro xs
            induction xs with
            | nil => intro vs h; simpa [nts, VRs] using h
            | cons x xs ih =>
              intro vs h;simp only [nts, List.map_cons, VRs] at h;obtain ⟨v, us, rfl, h1, h2⟩ := h;simp only [VR] at h1;subst h1;rw [ih us h2];simp
          exact key _ _ r2
        rw [hus] at r1
        have hlen : (nts .u8 (c :: cs)).length = n := by simpa [nts] using hl
        rw [hlen] at r1;exact r1
      rw [run_bytesToString w ad n cap _ hlc, Zjr]
      have h0 : ByteArray.empty ++ ZbV (c :: cs) = ZbV (c :: cs) := by
        apply ByteArray.ext;simp
      rw [h0];rfl
end
section
variable {C : Ctx} {Q : Post} {ops : Array Oper} {rest : List Oper} {k : List Item} {env : List D} {H H' : Heap} {df : List ADef} {id : Nat} {ps : Array Tmp} {asg bd : Code} {envL : List D}
variable {dst : Option Tmp} {ty : TypeId} {pos : String} {aft : Array Edge} {gd : Option (Nat × Bool)} {x : Operand}
theorem ARun.hp (h : H = H') (hk : ARun C Q k env H' df) : ARun C Q k env H df := h ▸ hk
theorem ARun.env0 {env' : List D} (h : env = env') (hk : ARun C Q k env' H df) : ARun C Q k env H df := h ▸ hk
theorem AOps.hp (h : H = H') (hk : AOps C Q ops rest k env H' df) : AOps C Q ops rest k env H df := h ▸ hk
theorem ZnU (hq : Q.rd = some id) (ho : H[id]? = some (Zck .ready ps asg bd envL)) [hp : PutL H id (Zck .busy ps asg bd envL) H'] (h : ARun C Q k env H' df) : ARun C Q (.beginRound :: k) env H df :=
  ARun.beginRound hq ho (by rw [hp.eq]; exact h)
theorem AOps.yieldI {ds envR e1 e2 : List D} {args : List Operand} {tys : Array TypeId} {ps : List Tmp} (K : Option Code → Heap → Prop) [h1 : Put env dst (.bool true) e1] [h2 : Put env dst (.bool false) e2] (hg : gOk ops.toList env gd = some true) (hx : evO C env x = some (.yld id)) (ha : evOs C env args = some ds) (ho : H[id]? = some (Zck .ready ps.toArray asg bd envL)) (hl : ds.length = ps.length) (hR : setL envL (ps.zip ds) = envR)
    (hb : ARun C (QRound id K) [.code asg, .beginRound, .code bd] envR H []) (hbusy : ∀ j H', K j H' → H'[id]? = some (Zck .busy ps.toArray asg bd envL))
    (hk : ∀ H', K none H' → AOps C Q ops rest k e1 (H'.set id (Zck .ready ps.toArray asg bd envL)) df)
    (hst : ∀ c H', K (some c) H' → AOps C Q ops rest k e2 (H'.set id (Zck (.done c) ps.toArray asg bd envL)) df) :
    AOps C Q ops (⟨dst, .call ⟨.value x, args.toArray, tys⟩, ty, pos, aft, gd⟩ :: rest) k env H df :=
  AOps.yield K hg hx ha ho hl hR hb hbusy (by rw [h1.eq]; exact hk) (by rw [h2.eq]; exact hst)
theorem Zan {o : Oper} {d : D} {g : Prop} {KP : D → Prop} {env' : List D} (hg : gOk ops.toList env o.guard = some true) (h : OpG C o env H d g KP) [hp : Put env o.dst d env'] (hk : g → AOps C Q ops rest k env' H df) (hpan : ∀ p, KP p → Q (.pan p) env H df) : AOps C Q ops (o :: rest) k env H df :=
  ZnO hg h (fun d' H1 ⟨h1, h2, h3⟩ => by subst h2; subst h3; rw [hp.eq]; exact hk h1) (fun d' H1 ⟨h1, h2⟩ => by subst h2; exact hpan _ h1)
end
theorem ZnI {C : Ctx} {f : FuncId} {args : List D} {g h : Prop} {d p : D} (hc : PC C f args (fun o => (g ∧ o = .ret d) ∨ (h ∧ o = .pan p))) : PC C f args (fun o => (g ∧ o = .ret d) ∨ ∃ q, (h ∧ q = p) ∧ o = .pan q) :=
  hc.mono fun o ho => by
    rcases ho with ho | ⟨h1, h2⟩
    · exact .inl ho
    exact .inr ⟨p, ⟨h1, rfl⟩, h2⟩
theorem DC.mono {C : Ctx} {f : FuncId} {H : Heap} {args : List D} {m : AMode} {R R' : AMode → Heap → Prop} (h : DC C f H args m R) (hr : ∀ m' H', R m' H' → R' m' H') : DC C f H args m R' := by
  refine ⟨h.1, fun L0 w μ vs u hs ha hu c cs hc => ?_⟩;obtain ⟨e, u', w', fr, ⟨v, m', H', μ', h1, h2, h3⟩, h4⟩ := h.2 L0 w μ vs u hs ha hu c cs hc;exact ⟨e, u', w', fr, ⟨v, m', H', μ', h1, hr _ _ h2, h3⟩, h4⟩
section
variable {C : Ctx} {env : List D} {H : Heap} {p : Tmp} {T : TypeId} {i off : Nat} {o : AObj} {d : D} {rs : List ResultVar} {ds : List D} {te : TE}
theorem Znv (h1 : env[p]? = some (.ptr i off)) (ht : C.ty T = some te) (ha : aggK te.k = false) (ho : H[i]? = some (some o)) (hd : o.cells[off]? = some d) (r : ResR C env H rs ds) : ResR C env H (.cell p T :: rs) (d :: ds) :=
  .one h1 (ZU ht).1 ((ZU ht).2.trans ha) ho hd r
theorem Znt {cs : List D} (h1 : env[p]? = some (.ptr i off)) (ht : C.ty T = some te) (ha : aggK te.k = true) (ho : H[i]? = some (some o)) (hd : (o.cells.drop off).take te.size = cs) (hl : cs.length = te.size) (r : ResR C env H rs ds) : ResR C env H (.cell p T :: rs) (.agg cs :: ds) :=
  .agg h1 (ZU ht).1 ((ZU ht).2.trans ha) ho hd hl r
end
theorem Zns {C : Ctx} {p : Tmp} {T : TypeId} {te : TE} {i off : Nat} {o : AObj} {r : Out → Prop} {k : List Item} {env : List D} {H : Heap} {cs : List D} (h : r (.ret (.agg cs))) (h1 : env[p]? = some (.ptr i off) := by rfl) (ht : C.ty T = some te := by rfl) (ha : aggK te.k = true := by rfl) (ho : H[i]? = some (some o) := by rfl) (hd : (o.cells.drop off).take te.size = cs := by rfl) (hl : cs.length = te.size := by rfl) (h2 : (Out.ret (.agg cs)).pure = true := by rfl) : ARun C (QFin C [.cell p T] (fun o _ => o.pure = true ∧ r o)) (.code .ret :: k) env H [] := ARun.ret ⟨_, _, _, Znt h1 ht ha ho hd hl .nil, .cons (.same _) .nil, h2, h⟩
theorem Zlc (o0 o1 : Option AObj) (xs : List Nat) : HC C 220 [o0, o1] [sln .u32 xs] (fun o H' => o = .ret (.clos 283 [.ptr 2 0]) ∧ H' = [o0, o1, some ⟨[sln .u32 xs], Zeh, 1, true, none⟩]) := by
  refine HC.run ZaW Zcr rfl Zcs (rs := [.tmp 2]) (by rw [Zct]) (by simp only [List.length_cons, List.length_nil, Nat.reduceAdd, Nat.reduceSub, List.replicate_succ, List.replicate_zero, List.cons_append, List.nil_append]; exact rfl) ?_;refine zzs ?_;refine Zq rfl (Zdu rfl rfl rfl) ?_;refine gn ?_;refine Za rfl (ZeG rfl) ?_;refine go ?_;refine ARun.ret ?_;refine ⟨_, _, _, .tmp rfl .nil, .cons (.same _) .nil, ?_⟩;exact ⟨rfl, rfl⟩
abbrev HB (xs : List Nat) (ps : Array Tmp) (asg bd : Code) (envL : List D) (o0 o1 : Option AObj) (st : LSt) : Heap := [o0, o1, some ⟨[sln .u32 xs], Zeh, 1, true, none⟩, defsO, Zck st ps asg bd envL]
theorem ZjN (xs : List Nat) (hlen : xs.length ≤ 1099511627776) (ps : List Tmp) (hps : ps.length = 2) (asg bd : Code) (envL : List D) (o0 o1 : Option AObj) (W : Nat → Prop) (S : Option AObj → Prop)
    (hround : ∀ i : Nat, i < xs.length → W (i + 1) → ARun C (QRound 4 (fun j H' => match j with
      | none => W i ∧ H' = HB xs ps.toArray asg bd envL o0 o1 .busy
      | some c => c = .ret ∧ ∃ o, S o ∧ H' = HB xs ps.toArray asg bd envL o0 o .busy)) [.code asg, .beginRound, .code bd] (setL envL (ps.zip [.int .i64 (i : Int), .int .u32 (xs.getD i 0 : Nat)])) (HB xs ps.toArray asg bd envL o0 o1 .ready) [])
    (h0 : W xs.length) :
    HC C 283 (HB xs ps.toArray asg bd envL o0 o1 .ready) [.yld 4, .ptr 2 0] (fun o H' => o = .ret (.tup []) ∧ ((W 0 ∧ H' = HB xs ps.toArray asg bd envL o0 o1 .ready) ∨ ∃ o, S o ∧ H' = HB xs ps.toArray asg bd envL o0 o (.done .ret))) := by
  refine HC.run ZaP Zcd rfl Zce (rs := []) (by rw [Zcf]) (by simp only [List.length_cons, List.length_nil, Nat.reduceAdd, Nat.reduceSub, List.replicate_succ, List.replicate_zero, List.cons_append, List.nil_append]; exact rfl) ?_;refine gn ?_;refine Za rfl (Zk rfl rfl (IntWalk.i64_in _ (by omega))) ?_;refine go ?_;refine Znw (S := Nat) (fun i : Nat => [(7, .any), (8, .any), (9, .any), (10, .any), (11, .any), (12, .any), (13, .any), (14, .any), (15, .any), (16, .any), (17, .any), (18, .any), (3, .int .i64 ((i : Int) - 1))]) (fun i : Nat => HB xs ps.toArray asg bd envL o0 o1 .ready) (fun i : Nat => i ≤ xs.length ∧ W i) (fun i : Nat => i) (xs.length) ?_ ?_
  · exact ⟨Nat.le_refl _, h0⟩
  rintro i hinv ih;obtain ⟨hi, hw⟩ := hinv;refine go ?_;refine ARun.cond rfl (fun h => ?_) (fun h => ?_)
  · skip
    replace h := Zh h;obtain ⟨j, rfl⟩ : ∃ j, i = j + 1 := ⟨i - 1, by omega⟩
    have e3 : ((j + 1 : Nat) : Int) - 1 = (j : Int) := by omega
    rw [e3]
    have hj : j < xs.length := by omega
    refine go ?_;refine Za rfl (Zm (i := j) rfl rfl rfl rfl (by omega) (by omega) (Zam (by omega)) (ZM rfl)) ?_;refine Za rfl (ZP rfl rfl rfl (Zb8 hj)) ?_;refine AOps.yieldI _ rfl rfl rfl rfl (by rw [hps]; rfl) rfl (hround j hj hw) ?_ ?_ ?_
    · intro q H' hq
      cases q with
      | none => obtain ⟨_, rfl⟩ := hq; rfl
      | some c => obtain ⟨_, o, _, rfl⟩ := hq; rfl
    · skip
      rintro _ ⟨hW, rfl⟩;refine AOps.hp (H' := HB xs ps.toArray asg bd envL o0 o1 .ready) rfl ?_;refine go ?_;refine Znx rfl ?_;refine gn ?_;refine Za rfl (Zk rfl rfl (IntWalk.i64_in _ (by omega))) ?_;refine go ?_;refine ARun.ag (ih ((j)) ?_ ?_)
      · exact ⟨by omega, hW⟩
      exact Nat.lt_succ_self _
    rintro c _ ⟨rfl, o, hS, rfl⟩;refine AOps.hp (H' := HB xs ps.toArray asg bd envL o0 o (.done .ret)) rfl ?_;refine go ?_;refine Znz rfl ?_;refine ARun.ret ?_;refine ⟨_, _, _, .nil, .nil, ?_⟩;exact ⟨rfl, .inr ⟨o, hS, rfl⟩⟩
  replace h := Zj h
  have hz : i = 0 := by omega
  subst hz;refine ARun.exit rfl ?_;refine ARun.nil ?_;refine ⟨_, _, _, .nil, .nil, ?_⟩;exact ⟨rfl, .inl ⟨hw, rfl⟩⟩
end Go.V
