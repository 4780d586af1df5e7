/- Rules for steps and contracts of functions, each proved; no condition. -/
import Derived.Test.YtaglofmanchabaaGreatDoorA04
set_option linter.unusedVariables false
set_option linter.unusedSimpArgs false
set_option linter.unnecessarySimpa false
set_option synthInstance.maxHeartbeats 2000000
set_option synthInstance.maxSize 100000
namespace Go.V
open Go.RowKit Go.Proofs
theorem Zb3 (a b : Nat) (ha : (lim a).length ≤ 1099511627776) (hb : b ≤ a) : PC C 172 [numD a, numD b] (fun o => o = .ret (numD (a - b))) := by
  refine Znr Tryz.func172 Tryz.ntmps172 Tryz.results172 ?_;refine zzs ?_; refine zza ?_; refine zzt ?_; refine Zr ?_; refine zzN ?_;refine Zq rfl (ZaG rfl rfl rfl rfl rfl rfl rfl (by omega) (by rw [Zy]; omega) (Za0 _)) ?_;refine go ?_;refine Za rfl (Zbv rfl rfl rfl) ?_;refine go ?_;refine Znw (S := Nat × Nat × List Nat) (fun σ : Nat × Nat × List Nat => [(7, .any), (8, .any), (15, .any), (16, .any), (17, .any), (18, .any), (19, .any), (20, .any), (21, .any), (22, .any), (23, .any), (24, .any), (25, .any), (26, .any), (27, .any), (28, .any), (29, .any), (30, .any), (31, .any), (32, .any), (33, .any), (14, .int .i64 (σ.1 : Int)), (6, .int .u64 (σ.2.1 : Int))]) (fun σ : Nat × Nat × List Nat => [some ⟨nts .u32 σ.2.2, Zs, 1, true, none⟩]) (fun σ : Nat × Nat × List Nat => U32 σ.2.2 ∧ σ.2.2.length = (lim a).length ∧ σ.1 ≤ σ.2.2.length ∧ σ.2.1 ≤ 1 ∧ val (σ.2.2.take σ.1) + b % B ^ σ.1 = a % B ^ σ.1 + B ^ σ.1 * σ.2.1) (fun σ : Nat × Nat × List Nat => (lim a).length - σ.1) ((0, 0, List.replicate (lim a).length 0)) ?_ ?_
  · exact ⟨U32.replicate, by simp, by simp, by simp, by simp [val, Nat.mod_one]⟩
  rintro ⟨i, c, ys⟩ hinv ih;dsimp only at hinv ih ⊢;obtain ⟨hu, hl, hi, hc, hv⟩ := hinv;refine go ?_;refine Znp rfl (fun h => ?_) (fun h => ?_)
  · skip
    have d1 := ZF a i;have d2 := ZF b i;refine go ?_;refine Zc rfl rfl (ZcP a i) ?_;refine go ?_;refine Zc rfl rfl (ZcP b i) ?_;refine Za rfl (Zk rfl rfl rfl) ?_;refine Zr ?_;refine Za rfl (Zk rfl rfl rfl) ?_;refine go ?_;refine Za rfl (Zo rfl rfl rfl (Zjf d1 d2 hc)) ?_;refine Za rfl (ZS rfl rfl rfl rfl rfl (by omega) (by omega) (Zab rfl)) ?_;refine Zq rfl (Zad rfl rfl rfl rfl rfl rfl (by simp; omega) Zbi) ?_;refine gn ?_;refine Za rfl (Za5 rfl rfl (by omega) (sub_c d1 d2 hc)) ?_;refine gn ?_;refine Za rfl (Zf rfl rfl (Zi (by omega))) ?_;refine go ?_;refine ARun.ag (ih ((i + 1, subC (dig a i) (dig b i) c, ys.set i (Zcy (dig a i) (dig b i) c))) ?_ ?_)
    · exact sub_step hu hl (by omega) hc (fun _ => trivial) hv
    (dsimp only; omega)
  refine ARun.exit rfl ?_;refine zzs ?_; refine Zr ?_;refine Zq rfl (Zcm rfl rfl (.cons (.row rfl (ZT _)) .nil) (ZcZ hu hl) rfl) ?_;refine go ?_;refine Zno ?_
  have hin : i = (lim a).length := by omega
  subst hin;rw [sub_end hl (Nat.le_refl _) hb hc hu hv]
  try rfl
theorem Zb4 (a n : Nat) (ha : (lim a).length ≤ 1099511627776) : PC C 252 [numD a, .int .i64 (n : Int)] (fun o => o = .ret (numD (a % B ^ n))) := by
  refine Znr Tryz.func252 Tryz.ntmps252 Tryz.results252 ?_;have hm : min n (lim a).length ≤ (lim a).length := Nat.min_le_right _ _
  have ht : (lim a).take (min n (lim a).length) = (lim a).take n := by rw [← List.take_eq_take_min]
  refine gn ?_;refine Za rfl (ZhR rfl rfl nmin) ?_;refine Za rfl (Ze0 (m := ((lim a).take n).length) (ds := nts .u32 ((lim a).take n)) rfl rfl rfl rfl rfl (Zg5 rfl rfl) (by omega) (by omega) (by simp) (by simp) (by rw [Zdc, ht]; simp)) ?_;refine Zc rfl rfl (ZhB _ (by rw [List.length_take]; omega)) ?_;refine Zc rfl rfl (Zl9 _ ((Zz a).take n)) ?_;refine go ?_;refine Zno ?_;rw [Zk1]
  try rfl
theorem Zbe (a n : Nat) (ha : (lim a).length ≤ 1099511627776) : PC C 251 [numD a, .int .i64 (n : Int)] (fun o => o = .ret (numD (a / B ^ n))) := by
  refine Znr Tryz.func251 Tryz.ntmps251 Tryz.results251 ?_;have hm : min n (lim a).length ≤ (lim a).length := Nat.min_le_right _ _
  have hd : (lim a).drop (min n (lim a).length) = lim (a / B ^ n) := by
    rw [← lim_drop]
    rcases Nat.le_total n (lim a).length with h | h
    · rw [Nat.min_eq_left h]
    rw [Nat.min_eq_right h, List.drop_of_length_le (Nat.le_refl _), List.drop_of_length_le h]
  have hdl : (lim a).length - min n (lim a).length = (lim (a / B ^ n)).length := by rw [← hd, List.length_drop]
  refine gn ?_;refine Za rfl (ZhR rfl rfl nmin) ?_;refine Za rfl (Ze0 (ds := nts .u32 (lim (a / B ^ n))) rfl rfl rfl rfl (Zg5 rfl rfl) rfl (by omega) (by omega) (by simp) hdl (by rw [Zdc, List.take_of_length_le (Nat.le_refl _), hd])) ?_;refine Zc rfl rfl (ZhB _ (by omega)) ?_;refine go ?_;refine Zno ?_;rfl
open Go.RowKit
theorem Zjh {w m : Nat} : BitVec.ofInt w (m : Int) = BitVec.ofNat w m := by simp
theorem nor_u64 {m n : Nat} (hm : m < 18446744073709551616) (hn : n < 18446744073709551616) : IntKind.u64.wrap ((BitVec.ofInt IntKind.u64.bits (m : Int) ||| BitVec.ofInt IntKind.u64.bits (n : Int)).toNat : Int) = ((m ||| n : Nat) : Int) := by
  have h : (BitVec.ofInt IntKind.u64.bits (m : Int) ||| BitVec.ofInt IntKind.u64.bits (n : Int)).toNat = m ||| n := by
    rw [Zjh, Zjh, BitVec.toNat_or, BitVec.toNat_ofNat, BitVec.toNat_ofNat];rw [show IntKind.u64.bits = 64 from rfl, Nat.mod_eq_of_lt (by omega), Nat.mod_eq_of_lt (by omega)]
  rw [h];have : m ||| n < 2 ^ 64 := Nat.or_lt_two_pow (by omega) (by omega);exact IntWalk.u64_in _ (by omega)
theorem nor_add {c x s : Nat} (hc : c < 2 ^ s) (h : c + x * 2 ^ s < 18446744073709551616) : IntKind.u64.wrap ((BitVec.ofInt IntKind.u64.bits (c : Int) ||| BitVec.ofInt IntKind.u64.bits ((x * 2 ^ s : Nat) : Int)).toNat : Int) = ((c + x * 2 ^ s : Nat) : Int) := by
  rw [nor_u64 (by omega) (by omega)]
  congr 1
  rw [Nat.mul_comm x, Nat.or_comm, ← Nat.two_pow_add_eq_or_of_lt hc, Nat.add_comm]
theorem Zji {c x s : Nat} (hc : c < 2 ^ s) (h : c + x * 2 ^ s < 18446744073709551616) : IntKind.u64.wrap ((BitVec.ofInt IntKind.u64.bits ((x * 2 ^ s : Nat) : Int) ||| BitVec.ofInt IntKind.u64.bits (c : Int)).toNat : Int) = ((c + x * 2 ^ s : Nat) : Int) := by
  rw [nor_u64 (by omega) (by omega)]
  congr 1
  rw [Nat.mul_comm x, ← Nat.two_pow_add_eq_or_of_lt hc, Nat.add_comm]
theorem ZcA {y : Int} {m s : Nat} (hy : y = (s : Int)) (hs : s ≤ 64) (h : m * 2 ^ s < 18446744073709551616) : IntKind.u64.wrap ((m : Int) * 2 ^ min y.toNat IntKind.u64.bits) = ((m * 2 ^ s : Nat) : Int) := by
  subst hy;rw [Int.toNat_natCast, show IntKind.u64.bits = 64 from rfl, Nat.min_eq_left hs]
  have : (m : Int) * 2 ^ s = ((m * 2 ^ s : Nat) : Int) := by simp
  rw [this];exact IntWalk.u64_in _ (by omega)
theorem fdiv_nat {m n : Nat} : (m : Int).fdiv (n : Int) = ((m / n : Nat) : Int) := by
  rw [Int.fdiv_eq_ediv_of_nonneg _ (Int.natCast_nonneg n)]; simp
theorem nshr {y : Int} {k : IntKind} {m s : Nat} (hy : y = (s : Int)) (hs : s ≤ k.bits) : (m : Int).fdiv (2 ^ min y.toNat k.bits) = ((m / 2 ^ s : Nat) : Int) := by
  subst hy;rw [Int.toNat_natCast, Nat.min_eq_left hs]
  have : (2 : Int) ^ s = ((2 ^ s : Nat) : Int) := by simp
  rw [this, fdiv_nat]
theorem Zay {y : Int} {m n : Nat} (hy : y = (n : Int)) (h : m ≤ 9223372036854775807) : IntKind.i64.wrap ((m : Int).tdiv y) = ((m / n : Nat) : Int) := by
  subst hy
  have : (m : Int).tdiv (n : Int) = ((m / n : Nat) : Int) := by simp
  rw [this];have h1 := Nat.div_le_self m n;generalize m / n = q at h1 ⊢;exact IntWalk.i64_in _ (by omega)
theorem ZeP {y : Int} {m n : Nat} (hy : y = (n : Int)) (h : m < 18446744073709551616) : IntKind.u64.wrap ((m : Int).tdiv y) = ((m / n : Nat) : Int) := by
  subst hy
  have : (m : Int).tdiv (n : Int) = ((m / n : Nat) : Int) := by simp
  rw [this];have h1 := Nat.div_le_self m n;generalize m / n = q at h1 ⊢;exact IntWalk.u64_in _ (by omega)
theorem nrem {y : Int} {m n : Nat} (hy : y = (n : Int)) : (m : Int).tmod y = ((m % n : Nat) : Int) := by
  subst hy; exact (Int.ofNat_tmod m n).symm
example : ((32 : Int)) = ((32 : Nat) : Int) := rfl
section
variable {C : Ctx} {env : List D} {H : Heap} {dst : Option Tmp} {ty : TypeId} {pos : String} {aft : Array Edge} {gd : Option (Nat × Bool)} {x y : Operand}
theorem q_orR {k : IntKind} {m n r : Int} {xt yt : TypeId} (hx : evO C env x = some (.int k m)) (hy : evO C env y = some (.int k n)) (hr : k.wrap ((BitVec.ofInt k.bits m ||| BitVec.ofInt k.bits n).toNat : Int) = r) : OpQ C ⟨dst, .binOp .or xt x y yt, ty, pos, aft, gd⟩ env H (.int k r) := by
  subst hr; exact Zaa hx hy rfl
theorem q_andR {k : IntKind} {m n r : Int} {xt yt : TypeId} (hx : evO C env x = some (.int k m)) (hy : evO C env y = some (.int k n)) (hr : k.wrap ((BitVec.ofInt k.bits m &&& BitVec.ofInt k.bits n).toNat : Int) = r) : OpQ C ⟨dst, .binOp .and xt x y yt, ty, pos, aft, gd⟩ env H (.int k r) := by
  subst hr; exact Zaa hx hy rfl
end
theorem Zb5 (a n : Nat) (ha : (lim a).length ≤ 1099511627776) (hn : n ≤ 1099511627776) : PC C 235 [numD a, .int .i64 (n : Int)] (fun o => o = .ret (numD (a * 2 ^ n))) := by
  refine Znr Tryz.func235 Tryz.ntmps235 Tryz.results235 ?_;have hr : n % 32 < 32 := Nat.mod_lt _ (by decide);refine go ?_;refine Znp rfl (fun h => ?_) (fun h => ?_)
  · skip
    refine go ?_;refine ARun.ret ?_;refine ⟨_, _, _, .tmp rfl .nil, .cons .nil .nil, rfl, ?_⟩
    have h0 : a = 0 := by
      have : (lim a).length = 0 := by omega
      exact Classical.byContradiction fun hne => by have := ZB.2 hne; omega
    subst h0;rw [Nat.zero_mul, numD, ZA];rfl
  refine gn ?_;refine Za rfl (ZaQ rfl rfl (by omega) (Zay (n := 32) rfl (by omega))) ?_;refine gn ?_;refine Za rfl (Zf rfl rfl (Z1 (by omega))) ?_;refine Za rfl (Zf rfl rfl (Zi (by omega))) ?_;refine Zq rfl (ZaG rfl rfl rfl rfl rfl rfl rfl (by omega) (by rw [Zy]; omega) (Za0 _)) ?_;refine go ?_;refine Znw (S := Nat × Nat × List Nat) (fun σ : Nat × Nat × List Nat => [(7, .any), (8, .any), (22, .any), (23, .any), (24, .any), (25, .any), (26, .any), (27, .any), (28, .any), (29, .any), (30, .any), (31, .any), (32, .any), (33, .any), (34, .any), (35, .any), (36, .any), (37, .any), (38, .any), (39, .any), (40, .any), (41, .any), (42, .any), (43, .any), (21, .int .i64 (σ.1 : Int)), (6, .int .u64 (σ.2.1 : Int))]) (fun σ : Nat × Nat × List Nat => [some ⟨nts .u32 σ.2.2, Zs, 1, true, none⟩]) (fun σ : Nat × Nat × List Nat => U32 σ.2.2 ∧ σ.2.2.length = n / 32 + (lim a).length + 1 ∧ σ.1 ≤ (lim a).length ∧ σ.2.1 < 2 ^ (n % 32) ∧ val (σ.2.2.take (n / 32 + σ.1)) + B ^ (n / 32 + σ.1) * σ.2.1 = a % B ^ σ.1 * 2 ^ (n % 32) * B ^ (n / 32)) (fun σ : Nat × Nat × List Nat => (lim a).length - σ.1) ((0, 0, List.replicate (n / 32 + (lim a).length + 1) 0)) ?_ ?_
  · exact ⟨U32.replicate, by simp, by simp, Nat.two_pow_pos _, by simp [Zcz, Nat.mod_one]⟩
  rintro ⟨i, c, ys⟩ hinv ih;dsimp only at hinv ih ⊢;obtain ⟨hu, hl, hi, hc, hv⟩ := hinv;refine go ?_;refine Znp rfl (fun h2 => ?_) (fun h2 => ?_)
  · skip
    have d1 := ZF a i;have d2 := Zkl d1 hr;have d3 : 2 ^ (n % 32) ≤ 2 ^ 31 := Nat.pow_le_pow_right (by decide) (by omega);refine go ?_;refine Za rfl (Zm rfl rfl rfl rfl (by omega) (by omega) (Zam (by omega)) (ZM rfl)) ?_;refine Za rfl (ZP rfl rfl rfl (Zaj (by omega))) ?_;refine go ?_;refine Za rfl (Zo rfl rfl rfl (Zt (by omega))) ?_;refine Zr ?_;refine Za rfl (Zdt rfl rfl (by omega) (nrem (n := 32) rfl)) ?_;refine Za rfl (ZfN rfl rfl (by omega) (ZcA rfl (by omega) (by omega))) ?_;refine Za rfl (q_orR rfl rfl (nor_add (by omega) (by omega))) ?_;refine gn ?_;refine Za rfl (ZaQ rfl rfl (by omega) (Zay (n := 32) rfl (by omega))) ?_;refine Zr ?_;refine Za rfl (Zf rfl rfl (Z1 (by omega))) ?_;refine Zr ?_;refine Za rfl (Zo rfl rfl rfl ZX) ?_;refine Za rfl (ZS rfl rfl rfl rfl rfl (by omega) (by omega) (Zab rfl)) ?_;refine Zq rfl (Zad rfl rfl rfl rfl rfl rfl (by simp; omega) Zbi) ?_;refine gn ?_;refine Za rfl (Za5 rfl rfl (by omega) Zcn) ?_;refine gn ?_;refine Za rfl (Zf rfl rfl (Zi (by omega))) ?_;refine go ?_;refine ARun.ag (ih ((i + 1, (c + dig a i * 2 ^ (n % 32)) / 4294967296, ys.set (n / 32 + i) ((c + dig a i * 2 ^ (n % 32)) % 4294967296))) ?_ ?_)
    · (obtain ⟨k1, k2, k3, k4⟩ := shl_step hu hl (by omega) hc hv; exact ⟨k1, k2, by omega, k3, k4⟩)
    (dsimp only; omega)
  have hin : i = (lim a).length := by omega
  subst hin;have d3 : 2 ^ (n % 32) ≤ 2 ^ 31 := Nat.pow_le_pow_right (by decide) (by omega);refine ARun.exit rfl ?_;refine go ?_;refine Za rfl (Zbv rfl rfl rfl) ?_;refine Za rfl (Zk rfl rfl (ZY (by omega) (by omega))) ?_;refine Zr ?_;refine Za rfl (Zo rfl rfl rfl (IntWalk.u32_in _ (by omega))) ?_;refine Za rfl (ZS rfl rfl rfl rfl rfl (by omega) (by omega) (Zab rfl)) ?_;refine Zq rfl (Zad rfl rfl rfl rfl rfl rfl (by simp; omega) Zbi) ?_;refine zzt ?_; refine Zr ?_;refine Zq rfl (Zcm rfl rfl (.cons (.row rfl (ZT _)) .nil) (ZcZ (hu.set (by omega)) (by rw [List.length_set]; exact hl)) rfl) ?_;refine go ?_;refine Zno ?_;rw [Zgv n, Nat.add_sub_cancel, shl_end hl rfl hv]
  try rfl
@[irreducible] def bl (n : Nat) : Nat := if n = 0 then 0 else Nat.log2 n + 1
theorem Zby {n k : Nat} : bl n ≤ k ↔ n < 2 ^ k := by
  unfold bl
  split
  · rename_i h; subst h; simp [Nat.two_pow_pos]
  rename_i h
  rw [Nat.succ_le_iff, Nat.log2_lt h]
theorem ZfO {n k : Nat} : k < bl n ↔ 2 ^ k ≤ n := by
  have := @Zby n k;omega
theorem lt_bl (n : Nat) : n < 2 ^ bl n := Zby.1 (Nat.le_refl _)
theorem Zeu {n k : Nat} (h : 2 ^ k ≤ n) : bl n = k + bl (n / 2 ^ k) := by
  have hk : 0 < 2 ^ k := Nat.two_pow_pos k
  have h1 : bl n ≤ k + bl (n / 2 ^ k) := by
    rw [Zby, Nat.pow_add, Nat.mul_comm];exact (Nat.div_lt_iff_lt_mul hk).1 (lt_bl _)
  have h0 : 0 < n / 2 ^ k := Nat.div_pos h hk
  have h2 : bl (n / 2 ^ k) - 1 < bl (n / 2 ^ k) := by
    have : 0 < bl (n / 2 ^ k) := ZfO.2 h0;omega
  have h3 : 2 ^ (bl (n / 2 ^ k) - 1) ≤ n / 2 ^ k := ZfO.1 h2
  have h4 : 2 ^ (k + (bl (n / 2 ^ k) - 1)) ≤ n := by
    rw [Nat.pow_add, Nat.mul_comm];exact (Nat.le_div_iff_mul_le hk).1 h3
  have h5 := ZfO.2 h4;omega
theorem bl_zero : bl 0 = 0 := by rw [bl]; rfl
theorem ZhT {a : Nat} (h : 0 < (lim a).length) : dig a ((lim a).length - 1) = a / B ^ ((lim a).length - 1) ∧ 0 < a / B ^ ((lim a).length - 1) := by
  have hne := ZB.1 h;refine ⟨?_, Nat.div_pos (le_ln hne) (Nat.pow_pos Zbj)⟩;rw [dig, Nat.mod_eq_of_lt];rw [Nat.div_lt_iff_lt_mul (Nat.pow_pos Zbj), Nat.mul_comm, ← Nat.pow_succ];have := ZcV a
  rwa [show ((lim a).length - 1).succ = (lim a).length by omega]
theorem Zjj {a : Nat} (h : 0 < (lim a).length) : bl a = 32 * ((lim a).length - 1) + bl (dig a ((lim a).length - 1)) := by
  rw [(ZhT h).1, ZdH];exact Zeu (by rw [← ZdH]; exact le_ln (ZB.1 h))
theorem Zbk (a : Nat) : bl a ≤ 32 * (lim a).length := by rw [Zby, ← ZdH]; exact ZcV a
theorem Zkn {m r i : Nat} (hr : r < 32) : (dig m i + dig m (i + 1) * 2 ^ 32) / 2 ^ r % 4294967296 = dig (m / 2 ^ r) i := by
  have hB : (2 : Nat) ^ 32 = B := rfl;rw [hB, dig, dig, dig, Nat.div_div_eq_div_mul, Nat.mul_comm (2 ^ r), ← Nat.div_div_eq_div_mul, Nat.pow_succ, ← Nat.div_div_eq_div_mul];generalize m / B ^ i = t;rw [Nat.mul_comm _ B, ← Nat.mod_mul]
  have h1 : B * B = 2 ^ r * (2 ^ (32 - r) * B) := by
    rw [← Nat.mul_assoc, ← Nat.pow_add, show r + (32 - r) = 32 by omega]; rfl
  rw [h1]
  have h2 : t % (2 ^ r * (2 ^ (32 - r) * B)) / 2 ^ r = t / 2 ^ r % (2 ^ (32 - r) * B) := by
    rw [Nat.mod_mul, Nat.add_mul_div_left _ _ (Nat.two_pow_pos r), Nat.div_eq_of_lt (Nat.mod_lt _ (Nat.two_pow_pos r)), Nat.zero_add]
  rw [h2];exact Nat.mod_mul_left_mod _ _ _
theorem ZiF (a q i : Nat) : dig a (i + q) = dig (a / B ^ q) i := by
  rw [dig, dig, Nat.div_div_eq_div_mul, ← Nat.pow_add, Nat.add_comm]
theorem ZeQ (a n : Nat) : a / 2 ^ n = a / B ^ (n / 32) / 2 ^ (n % 32) := by
  rw [Nat.div_div_eq_div_mul, ← Zgv]
theorem shr_step {a i n L : Nat} {ys : List Nat} (hu : U32 ys) (hl : ys.length = L) (hi : i < ys.length) (hv : val (ys.take i) = a / 2 ^ n % B ^ i) :
    U32 (ys.set i ((dig a (i + n / 32) + dig a (i + n / 32 + 1) * 2 ^ 32) / 2 ^ (n % 32) % 4294967296)) ∧ (ys.set i ((dig a (i + n / 32) + dig a (i + n / 32 + 1) * 2 ^ 32) / 2 ^ (n % 32) % 4294967296)).length = L ∧
      val ((ys.set i ((dig a (i + n / 32) + dig a (i + n / 32 + 1) * 2 ^ 32) / 2 ^ (n % 32) % 4294967296)).take (i + 1)) = a / 2 ^ n % B ^ (i + 1) := by
  refine ⟨hu.set (Nat.mod_lt _ (by decide)), by simpa using hl, ?_⟩;rw [ZaV hi, hv, Zat]
  congr 2
  rw [show i + n / 32 + 1 = (i + 1) + n / 32 by omega, ZiF, ZiF, Zkn (Nat.mod_lt _ (by decide)), ← ZeQ]
theorem shr_end {a n : Nat} {ys : List Nat} (hq : n / 32 ≤ (lim a).length) (hl : ys.length = (lim a).length - n / 32) (hv : val (ys.take ((lim a).length - n / 32)) = a / 2 ^ n % B ^ ((lim a).length - n / 32)) : val ys = a / 2 ^ n := by
  rw [List.take_of_length_le (by omega), Nat.mod_eq_of_lt] at hv
  · exact hv
  rw [ZeQ];refine Nat.lt_of_le_of_lt (Nat.div_le_self _ _) ?_;rw [Nat.div_lt_iff_lt_mul (Nat.pow_pos Zbj), ← Nat.pow_add, show (lim a).length - n / 32 + n / 32 = (lim a).length by omega];exact ZcV a
theorem tab_size {s : ByteArray} {f : Nat → Nat} {N : Nat} (hs : s.data.toList.map (·.toNat) = (List.range N).map f) : s.size = N := by
  have h := congrArg List.length hs;rw [List.length_map, List.length_map, List.length_range, Array.length_toList] at h;exact h
theorem Zjk {s : ByteArray} {f : Nat → Nat} {N : Nat} (hs : s.data.toList.map (·.toNat) = (List.range N).map f) {i : Int} {n : Nat} (hi : i = (n : Int)) (hn : n < N) : i.toNat < s.size := by
  rw [tab_size hs, hi]; simpa using hn
theorem Zg9 {s : ByteArray} {f : Nat → Nat} {N : Nat} (hs : s.data.toList.map (·.toNat) = (List.range N).map f) {i : Int} {n : Nat} (hi : i = (n : Int)) (hn : n < N) (h1 : i.toNat < s.size) : ((s[i.toNat]'h1).toNat : Int) = ((f n : Nat) : Int) := by
  subst hi
  have h2 : (s.data.toList.map (·.toNat))[n]? = ((List.range N).map f)[n]? := by rw [hs]
  have h3 : n < s.data.size := by simpa using h1
  simp [hn] at h2;obtain ⟨u, h5, h6⟩ := h2;have h4 : s[(n : Int).toNat]'h1 = s.data[n]'h3 := rfl;rw [Array.getElem?_eq_getElem h3] at h5
  injection h5 with h5
  rw [h4, h5, h6]
theorem bl8 (y : Nat) : bl (y % 256) ≤ 9223372036854775807 := by
  have h : bl (y % 256) ≤ 8 := Zby.2 (Nat.mod_lt y (by decide));omega
theorem ZfP {n : Nat} : IntKind.u8.wrap (n : Int) = ((n % 256 : Nat) : Int) := by rw [IntKind.wrap_u8]; omega
theorem Zla (x : Nat) (hx : x < 4294967296) : PC C 229 [.int .u32 (x : Int)] (fun o => o = .ret (.int .i64 (bl x : Nat))) := by
  refine Znr Tryz.func229 Tryz.ntmps229 Tryz.results229 ?_;refine go ?_;refine Znp rfl (fun h => ?_) (fun h => ?_)
  · skip
    have e1 : bl x = 16 + bl (x / 2 ^ 16) := Zeu (by omega);refine gn ?_;refine Za rfl (Za5 rfl rfl (by omega) (nshr (s := 16) rfl (by decide))) ?_;refine go ?_;refine Znp rfl (fun h2 => ?_) (fun h2 => ?_)
    · skip
      have e2 : bl (x / 2 ^ 16) = 8 + bl (x / 2 ^ 16 / 2 ^ 8) := Zeu (by omega);have e3 := @Zby (x / 2 ^ 16 / 2 ^ 8) 8
      have e4 : x / 2 ^ 16 / 2 ^ 8 % 256 = x / 2 ^ 16 / 2 ^ 8 := by omega
      refine gn ?_;refine Za rfl (Za5 rfl rfl (by omega) (nshr (s := 8) rfl (by decide))) ?_;refine gn ?_;refine Za rfl (Zf rfl rfl (IntWalk.i64_in _ (by omega))) ?_;refine go ?_;refine Za rfl (Zo rfl rfl rfl ZfP) ?_;refine Za rfl (ZeH rfl rfl rfl (by omega) (Zjk (f := bl) (N := 256) (by kernel_rfl) rfl (by omega)) (Zg9 (f := bl) (N := 256) (by kernel_rfl) rfl (by omega) _)) ?_;refine Za rfl (Zo rfl rfl rfl (ZeO (bl8 _))) ?_;refine Za rfl (Zf rfl rfl (r := (bl x : Nat)) (by rw [e4, IntWalk.i64_in _ (by omega)]; omega)) ?_;refine go ?_;refine Zno ?_;rfl
    have e3 := @Zby (x / 2 ^ 16) 8
    have e4 : x / 2 ^ 16 % 256 = x / 2 ^ 16 := by omega
    refine go ?_;refine Za rfl (Zo rfl rfl rfl ZfP) ?_;refine Za rfl (ZeH rfl rfl rfl (by omega) (Zjk (f := bl) (N := 256) (by kernel_rfl) rfl (by omega)) (Zg9 (f := bl) (N := 256) (by kernel_rfl) rfl (by omega) _)) ?_;refine Za rfl (Zo rfl rfl rfl (ZeO (bl8 _))) ?_;refine Za rfl (Zf rfl rfl (r := (bl x : Nat)) (by rw [e4, IntWalk.i64_in _ (by omega)]; omega)) ?_;refine go ?_;refine Zno ?_;rfl
  refine go ?_;refine Znp rfl (fun h2 => ?_) (fun h2 => ?_)
  · skip
    have e2 : bl x = 8 + bl (x / 2 ^ 8) := Zeu (by omega);have e3 := @Zby (x / 2 ^ 8) 8
    have e4 : x / 2 ^ 8 % 256 = x / 2 ^ 8 := by omega
    refine gn ?_;refine Za rfl (Za5 rfl rfl (by omega) (nshr (s := 8) rfl (by decide))) ?_;refine gn ?_;refine Za rfl (Zf rfl rfl (Zi (by omega))) ?_;refine go ?_;refine Za rfl (Zo rfl rfl rfl ZfP) ?_;refine Za rfl (ZeH rfl rfl rfl (by omega) (Zjk (f := bl) (N := 256) (by kernel_rfl) rfl (by omega)) (Zg9 (f := bl) (N := 256) (by kernel_rfl) rfl (by omega) _)) ?_;refine Za rfl (Zo rfl rfl rfl (ZeO (bl8 _))) ?_;refine Za rfl (Zf rfl rfl (r := (bl x : Nat)) (by rw [e4, IntWalk.i64_in _ (by omega)]; omega)) ?_;refine go ?_;refine Zno ?_;rfl
  have e3 := @Zby x 8
  have e4 : x % 256 = x := by omega
  refine go ?_;refine Za rfl (Zo rfl rfl rfl ZfP) ?_;refine Za rfl (ZeH rfl rfl rfl (by omega) (Zjk (f := bl) (N := 256) (by kernel_rfl) rfl (by omega)) (Zg9 (f := bl) (N := 256) (by kernel_rfl) rfl (by omega) _)) ?_;refine Za rfl (Zo rfl rfl rfl (ZeO (bl8 _))) ?_;refine Za rfl (Zf rfl rfl (r := (bl x : Nat)) (by rw [e4, IntWalk.i64_in _ (by omega)]; omega)) ?_;refine go ?_;refine Zno ?_;rfl
theorem ZcQ (a : Nat) (ha : (lim a).length ≤ 1099511627776) : PC C 154 [numD a] (fun o => o = .ret (.int .i64 (bl a : Nat))) := by
  refine Znr Tryz.func154 Tryz.ntmps154 Tryz.results154 ?_;have hb := Zbk a;refine go ?_;refine Znp rfl (fun h => ?_) (fun h => ?_)
  · skip
    refine go ?_;refine Zno ?_
    have : bl a = 0 := by omega
    rw [this]
    try rfl
  have e := Zjj (a := a) (by omega);refine gn ?_;refine Za rfl (Zk rfl rfl (ZY (by omega) (by omega))) ?_;refine Za rfl (ZaC rfl rfl (ZaD (m := 32) (by omega))) ?_;refine gn ?_;refine Za rfl (Zk rfl rfl (ZY (by omega) (by omega))) ?_;refine Za rfl (Zm rfl rfl rfl rfl (by omega) (by omega) (Zam (by omega)) (ZM rfl)) ?_;refine Za rfl (ZP rfl rfl rfl (Zaj (by omega))) ?_;refine Zc rfl rfl (Zla _ (ZF _ _)) ?_;refine Za rfl (Zf rfl rfl (r := (bl a : Nat)) (by rw [IntWalk.i64_in _ (by omega)]; omega)) ?_;refine go ?_;refine Zno ?_;rfl
theorem ZiS (a n : Nat) (ha : (lim a).length ≤ 1099511627776) (hn : n ≤ 9223372036854775807) : PC C 254 [numD a, .int .i64 (n : Int)] (fun o => o = .ret (numD (a / 2 ^ n))) := by
  refine Znr Tryz.func254 Tryz.ntmps254 Tryz.results254 ?_;have hr : n % 32 < 32 := Nat.mod_lt _ (by decide);have hb := Zbk a;refine go ?_;refine Zc rfl rfl (ZcQ a ha) ?_;refine go ?_;refine Znp rfl (fun h => ?_) (fun h => ?_)
  · skip
    refine go ?_;refine ARun.ret ?_;refine ⟨_, _, _, .tmp rfl .nil, .cons .nil .nil, rfl, ?_⟩;have : a / 2 ^ n = 0 := Nat.div_eq_of_lt (Zby.1 (by omega));rw [this, numD, ZA];rfl
  refine gn ?_;refine Za rfl (ZaQ rfl rfl (by omega) (Zay (n := 32) rfl (by omega))) ?_;refine Za rfl (Zk rfl rfl (Zc3 (by omega) (by omega))) ?_;refine Zq rfl (ZaG rfl rfl rfl rfl rfl rfl rfl (by omega) (by rw [Zy]; omega) (Za0 _)) ?_;refine go ?_;refine Za rfl (Zbv rfl rfl rfl) ?_;refine go ?_;refine Znw (S := Nat × List Nat) (fun σ : Nat × List Nat => [(6, .any), (7, .any), (21, .any), (22, .any), (23, .any), (24, .any), (25, .any), (26, .any), (27, .any), (28, .any), (29, .any), (30, .any), (31, .any), (32, .any), (33, .any), (34, .any), (35, .any), (36, .any), (37, .any), (38, .any), (39, .any), (40, .any), (41, .any), (42, .any), (43, .any), (44, .any), (45, .any), (46, .any), (20, .int .i64 (σ.1 : Int))]) (fun σ : Nat × List Nat => [some ⟨nts .u32 σ.2, Zs, 1, true, none⟩]) (fun σ : Nat × List Nat => U32 σ.2 ∧ σ.2.length = (lim a).length - n / 32 ∧ σ.1 ≤ σ.2.length ∧ val (σ.2.take σ.1) = a / 2 ^ n % B ^ σ.1) (fun σ : Nat × List Nat => (lim a).length - n / 32 - σ.1) ((0, List.replicate ((lim a).length - n / 32) 0)) ?_ ?_
  · exact ⟨U32.replicate, by simp, by simp, by simp [val, Nat.mod_one]⟩
  rintro ⟨i, ys⟩ hinv ih;dsimp only at hinv ih ⊢;obtain ⟨hu, hl, hi, hv⟩ := hinv;refine go ?_;refine Znp rfl (fun h2 => ?_) (fun h2 => ?_)
  · skip
    have d1 := ZF a (i + n / 32);have d2 := ZF a (i + n / 32 + 1);refine gn ?_;refine Za rfl (ZaQ rfl rfl (by omega) (Zay (n := 32) rfl (by omega))) ?_;refine Za rfl (Zf rfl rfl (Z1 (by omega))) ?_;refine Zc rfl rfl (ZcP a (i + n / 32)) ?_;refine gn ?_;refine Za rfl (ZaQ rfl rfl (by omega) (Zay (n := 32) rfl (by omega))) ?_;refine Za rfl (Zf rfl rfl (Z1 (by omega))) ?_;refine Za rfl (Zf rfl rfl (Zi (by omega))) ?_;refine Zc rfl rfl (ZcP a (i + n / 32 + 1)) ?_;refine Za rfl (ZfN rfl rfl (by omega) (ZcA (s := 32) rfl (by omega) (by omega))) ?_;refine Za rfl (q_orR rfl rfl (nor_add (by omega) (by omega))) ?_;refine gn ?_;refine Za rfl (Zdt rfl rfl (by omega) (nrem (n := 32) rfl)) ?_;refine Za rfl (Za5 rfl rfl (by omega) (nshr rfl (by simp [IntKind.bits]; omega))) ?_;refine Za rfl (Zo rfl rfl rfl ZX) ?_;refine Za rfl (ZS rfl rfl rfl rfl rfl (by omega) (by omega) (Zab rfl)) ?_;refine Zq rfl (Zad rfl rfl rfl rfl rfl rfl (by simp; omega) Zbi) ?_;refine gn ?_;refine Za rfl (Zf rfl rfl (Zi (by omega))) ?_;refine go ?_;refine ARun.ag (ih ((i + 1, ys.set i ((dig a (i + n / 32) + dig a (i + n / 32 + 1) * 2 ^ 32) / 2 ^ (n % 32) % 4294967296))) ?_ ?_)
    · (obtain ⟨k1, k2, k3⟩ := shr_step (n := n) hu hl (by omega) hv; exact ⟨k1, k2, by dsimp only; omega, k3⟩)
    (dsimp only; omega)
  have hin : i = (lim a).length - n / 32 := by omega
  subst hin;refine ARun.exit rfl ?_;refine zzs ?_; refine Zr ?_;refine Zq rfl (Zcm rfl rfl (.cons (.row rfl (ZT _)) .nil) (ZcZ hu hl) rfl) ?_;refine go ?_;refine Zno ?_;rw [shr_end (by omega) hl hv]
  try rfl
theorem dig_cons {x v p : Nat} (hx : x < B) : dig (x + B * v) (p + 1) = dig v p := by
  rw [dig, dig, Nat.pow_succ, Nat.mul_comm (B ^ p) B, ← Nat.div_div_eq_div_mul, Nat.add_mul_div_left _ _ Zbj, Nat.div_eq_of_lt hx, Nat.zero_add]
theorem dig_val {xs : List Nat} (hu : U32 xs) (p : Nat) : xs.getD p 0 = dig (val xs) p := by
  induction xs generalizing p with
  | nil => simp [val, dig]
  | cons x xs ih =>
    cases p with
    | zero =>
      rw [val, dig, Nat.pow_zero, Nat.div_one, Nat.add_mul_mod_self_left, Nat.mod_eq_of_lt hu.head];rfl
    | succ p =>
      rw [val, dig_cons hu.head, ← ih hu.tail];simp [List.getD_eq_getElem?_getD]
theorem Zko {xs : List Nat} {p k : Nat} (h : p < k) : (xs.take k).getD p 0 = xs.getD p 0 := by
  rw [List.getD_eq_getElem?_getD, List.getD_eq_getElem?_getD, List.getElem?_take, if_pos h]
theorem ZbF {xs : List Nat} {p k v : Nat} (h : k ≠ p) : (xs.set k v).getD p 0 = xs.getD p 0 := by
  rw [List.getD_eq_getElem?_getD, List.getD_eq_getElem?_getD, List.getElem?_set_ne h]
theorem Zcj {x y : Nat} (hx : x < 4294967296) (hy : y < 4294967296) : x * y ≤ 18446744065119617025 := Nat.mul_le_mul (show x ≤ 4294967295 by omega) (show y ≤ 4294967295 by omega)
theorem sch_step {i j c x W b n : Nat} {ys : List Nat} (hu : U32 ys) (hl : ys.length = n) (hi : i + j < ys.length) (hx : x < 4294967296) (hc : c < 4294967296) (hd : ys.getD (i + j) 0 = dig W (i + j))
    (hv : val (ys.take (i + j)) + B ^ (i + j) * c = W % B ^ (i + j) + B ^ i * (x * (b % B ^ j))) :
    U32 (ys.set (i + j) ((c + (x * dig b j + dig W (i + j))) % 4294967296)) ∧ (ys.set (i + j) ((c + (x * dig b j + dig W (i + j))) % 4294967296)).length = n ∧ (c + (x * dig b j + dig W (i + j))) / 4294967296 < 4294967296 ∧
      val ((ys.set (i + j) ((c + (x * dig b j + dig W (i + j))) % 4294967296)).take (i + (j + 1))) + B ^ (i + (j + 1)) * ((c + (x * dig b j + dig W (i + j))) / 4294967296) = W % B ^ (i + (j + 1)) + B ^ i * (x * (b % B ^ (j + 1))) := by
  have d1 := ZF W (i + j);have d2 := Zcj hx (ZF b j);refine ⟨hu.set (Nat.mod_lt _ (by decide)), by simpa using hl, by omega, ?_⟩;rw [← Nat.add_assoc, ZaV hi, Zat, Zat, Nat.pow_succ, Nat.mul_assoc];generalize hs : c + (x * dig b j + dig W (i + j)) = s
  have h1 : B ^ (i + j) * (s % 4294967296) + B ^ (i + j) * (B * (s / 4294967296)) = B ^ (i + j) * s := by
    rw [← Nat.mul_add]; congr 1; exact Nat.mod_add_div s B
  have h2 : B ^ (i + j) * s = B ^ (i + j) * c + (B ^ (i + j) * (x * dig b j) + B ^ (i + j) * dig W (i + j)) := by rw [← hs, Nat.mul_add, Nat.mul_add]
  have h3 : B ^ i * (x * (b % B ^ j + B ^ j * dig b j)) = B ^ i * (x * (b % B ^ j)) + B ^ (i + j) * (x * dig b j) := by
    rw [Nat.mul_add, Nat.mul_add, Nat.pow_add]
    congr 1
    simp only [Nat.mul_comm, Nat.mul_left_comm, Nat.mul_assoc]
  omega
theorem sch_row {a b i c W n : Nat} {ys : List Nat} (hu : U32 ys) (hl : ys.length = n) (hi : i + (lim b).length < ys.length) (hc : c < 4294967296) (hW : W = a % B ^ i * b) (hv : val (ys.take (i + (lim b).length)) + B ^ (i + (lim b).length) * c = W % B ^ (i + (lim b).length) + B ^ i * (dig a i * (b % B ^ (lim b).length))) :
    U32 (ys.set (i + (lim b).length) c) ∧ (ys.set (i + (lim b).length) c).length = n ∧ val ((ys.set (i + (lim b).length) c).take (i + 1 + (lim b).length)) = a % B ^ (i + 1) * b := by
  refine ⟨hu.set hc, by simpa using hl, ?_⟩;rw [show i + 1 + (lim b).length = i + (lim b).length + 1 by omega, ZaV hi, hv, Zci (Nat.le_refl _), Zat, Nat.add_mul, hW];rw [Nat.mod_eq_of_lt]
  · rw [Nat.mul_assoc]
  rw [Nat.pow_add];exact Nat.mul_lt_mul_of_lt_of_le (Nat.mod_lt _ (Nat.pow_pos Zbj)) (Nat.le_of_lt (ZcV b)) (Nat.pow_pos Zbj)
theorem sch_dig {ys : List Nat} (hu : U32 ys) {k p W : Nat} (hv : val (ys.take k) = W) (hp : p < k) : ys.getD p 0 = dig W p := by
  rw [← Zko hp, dig_val (hu.take k), hv]
theorem Zha {ys : List Nat} (hu : U32 ys) (i k : Nat) (h : i ≤ k) : val (ys.take i) = val (ys.take k) % B ^ i := by
  have e : ys.take k = ys.take i ++ (ys.take k).drop i := by
    have := List.take_append_drop i (ys.take k);rw [List.take_take, Nat.min_eq_left h] at this;exact this.symm
  rw [e, ZV]
  by_cases hi : i ≤ ys.length
  · rw [List.length_take, Nat.min_eq_left hi, Nat.add_mul_mod_self_left, Nat.mod_eq_of_lt]
    have := Zec (hu.take i)
    rwa [List.length_take, Nat.min_eq_left hi] at this
  have h1 : (ys.take k).drop i = [] := by
    rw [List.drop_eq_nil_iff, List.length_take]; omega
  rw [h1];simp only [val, Nat.mul_zero, Nat.add_zero];refine (Nat.mod_eq_of_lt (Nat.lt_of_lt_of_le (Zec (hu.take i)) (Nat.pow_le_pow_right Zbj ?_))).symm;rw [List.length_take]; omega
theorem Zf7 (n : Nat) (hn : n < 18446744073709551616) : PC C 237 [.int .u64 (n : Int)] (fun o => o = .ret (numD n)) := by
  refine Znr Tryz.func237 Tryz.ntmps237 Tryz.results237 ?_;have hu : U32 [n % 4294967296, n / 4294967296 % 4294967296] := U32.cons (Nat.mod_lt _ (by decide)) (U32.cons (Nat.mod_lt _ (by decide)) U32.nil)
  have hv : val [n % 4294967296, n / 4294967296 % 4294967296] = n := by
    simp only [val, B_eq]; omega
  refine go ?_;refine Za rfl (Zo rfl rfl rfl ZX) ?_;refine Zr ?_;refine Za rfl (Za5 rfl rfl (by omega) Zcn) ?_;refine Za rfl (Zo rfl rfl rfl ZX) ?_;refine Zq rfl (Z9 rfl rfl rfl rfl rfl rfl rfl rfl rfl rfl rfl (by decide) (by decide)) ?_;refine Zq rfl (Zcm rfl rfl (.cons (.row rfl rfl) .nil) (ZcZ (xs := [n % 4294967296, n / 4294967296 % 4294967296]) hu rfl) rfl) ?_;refine go ?_;refine Zno ?_;rw [hv]
  try rfl
theorem ZjL (a b : Nat) (ha : (lim a).length ≤ 1099511627776) (hb : (lim b).length ≤ 1099511627776) : PC C 292 [numD a, numD b] (fun o => o = .ret (numD (a * b))) := by
  refine Znr Tryz.func292 Tryz.ntmps292 Tryz.results292 ?_;refine gn ?_;refine Za rfl (Zf rfl rfl (Z1 (by omega))) ?_;refine Zq rfl (ZaG rfl rfl rfl rfl rfl rfl rfl (by omega) (by rw [Zy]; omega) (Za0 _)) ?_;refine go ?_;refine Znw (S := Nat × List Nat) (fun σ : Nat × List Nat => [(6, .any), (7, .any), (8, .any), (9, .any), (10, .any), (20, .any), (21, .any), (22, .any), (23, .any), (24, .any), (25, .any), (26, .any), (27, .any), (28, .any), (29, .any), (30, .any), (31, .any), (32, .any), (33, .any), (34, .any), (35, .any), (36, .any), (37, .any), (38, .any), (39, .any), (40, .any), (41, .any), (42, .any), (43, .any), (44, .any), (45, .any), (46, .any), (47, .any), (48, .any), (49, .any), (50, .any), (51, .any), (52, .any), (53, .any), (54, .any), (55, .any), (56, .any), (57, .any), (58, .any), (59, .any), (60, .any), (61, .any), (62, .any), (63, .any), (64, .any), (19, .int .i64 (σ.1 : Int))]) (fun σ : Nat × List Nat => [some ⟨nts .u32 σ.2, Zs, 1, true, none⟩]) (fun σ : Nat × List Nat => U32 σ.2 ∧ σ.2.length = (lim a).length + (lim b).length ∧ σ.1 ≤ (lim a).length ∧ val (σ.2.take (σ.1 + (lim b).length)) = a % B ^ σ.1 * b) (fun σ : Nat × List Nat => (lim a).length - σ.1) ((0, List.replicate ((lim a).length + (lim b).length) 0)) ?_ ?_
  · exact ⟨U32.replicate, by simp, by simp, by simp [Zcz, Nat.mod_one]⟩
  rintro ⟨i, ys⟩ hinv ih;dsimp only at hinv ih ⊢;obtain ⟨hu, hl, hi, hv⟩ := hinv;refine go ?_;refine Znp rfl (fun h => ?_) (fun h => ?_)
  · skip
    have d1 := ZF a i;refine go ?_;refine Za rfl (Zm rfl rfl rfl rfl (by omega) (by omega) (Zam (by omega)) (ZM rfl)) ?_;refine Za rfl (ZP rfl rfl rfl (Zaj (by omega))) ?_;refine go ?_;refine Znw (S := Nat × Nat × List Nat) (fun σ : Nat × Nat × List Nat => [(9, .any), (10, .any), (27, .any), (28, .any), (29, .any), (30, .any), (31, .any), (32, .any), (33, .any), (34, .any), (35, .any), (36, .any), (37, .any), (38, .any), (39, .any), (40, .any), (41, .any), (42, .any), (43, .any), (44, .any), (45, .any), (46, .any), (47, .any), (48, .any), (49, .any), (50, .any), (51, .any), (52, .any), (53, .any), (54, .any), (55, .any), (26, .int .i64 (σ.1 : Int)), (8, .int .u64 (σ.2.1 : Int))]) (fun σ : Nat × Nat × List Nat => [some ⟨nts .u32 σ.2.2, Zs, 1, true, none⟩]) (fun σ : Nat × Nat × List Nat => U32 σ.2.2 ∧ σ.2.2.length = (lim a).length + (lim b).length ∧ σ.1 ≤ (lim b).length ∧ σ.2.1 < 4294967296 ∧ (∀ p, i + σ.1 ≤ p → p < i + (lim b).length → σ.2.2.getD p 0 = dig (a % B ^ i * b) p) ∧ val (σ.2.2.take (i + σ.1)) + B ^ (i + σ.1) * σ.2.1 = (a % B ^ i * b) % B ^ (i + σ.1) + B ^ i * (dig a i * (b % B ^ σ.1))) (fun σ : Nat × Nat × List Nat => (lim b).length - σ.1) ((0, 0, ys)) ?_ ?_
    · exact ⟨hu, hl, by simp, by simp, fun p _ hp => sch_dig hu hv hp, by dsimp only; rw [Nat.add_zero, Nat.mul_zero, Nat.add_zero, Nat.pow_zero, Nat.mod_one, Nat.mul_zero, Nat.mul_zero, Nat.add_zero, ← hv]; exact Zha hu _ _ (by omega)⟩
    rintro ⟨j, c, zs⟩ hinv2 ih2;dsimp only at hinv2 ih2 ⊢;obtain ⟨hu2, hl2, hj, hc, hd, hv2⟩ := hinv2;refine go ?_;refine Znp rfl (fun h2 => ?_) (fun h2 => ?_)
    · skip
      have d2 := Zcj d1 (ZF b j);have d3 := ZF b j;have d4 := hu2.get (i + j);have d5 := hd (i + j) (by omega) (by omega);have d6 := ZF (a % B ^ i * b) (i + j);refine go ?_;refine Za rfl (Zm rfl rfl rfl rfl (by omega) (by omega) (Zam (by omega)) (ZM rfl)) ?_;refine Za rfl (ZP rfl rfl rfl (Zaj (by omega))) ?_;refine go ?_;refine Za rfl (Zo rfl rfl rfl (Zt (by omega))) ?_;refine Zr ?_;refine Za rfl (Zo rfl rfl rfl (Zt (by omega))) ?_;refine Za rfl (ZaC rfl rfl (Zdv (by omega))) ?_;refine gn ?_;refine Za rfl (Zf rfl rfl (Z1 (by omega))) ?_;refine Za rfl (ZS rfl rfl rfl rfl rfl (by omega) (by omega) (Zab rfl)) ?_;refine Za rfl (ZC rfl rfl rfl rfl ((ZdP (by omega)).trans (by rw [d5]))) ?_;refine Za rfl (Zo rfl rfl rfl (Zt (by omega))) ?_;refine Za rfl (Zf rfl rfl (Zaf (by omega))) ?_;refine Za rfl (Zf rfl rfl (Zaf (by omega))) ?_;refine gn ?_;refine Za rfl (Zf rfl rfl (Z1 (by omega))) ?_;refine Zr ?_;refine Za rfl (Zo rfl rfl rfl ZX) ?_;refine Za rfl (ZS rfl rfl rfl rfl rfl (by omega) (by omega) (Zab rfl)) ?_;refine Zq rfl (Zad rfl rfl rfl rfl rfl rfl (by simp; omega) Zbi) ?_;refine gn ?_;refine Za rfl (Za5 rfl rfl (by omega) Zcn) ?_;refine gn ?_;refine Za rfl (Zf rfl rfl (Zi (by omega))) ?_;refine go ?_;refine ZnC (ih2 ((j + 1, (c + (dig a i * dig b j + dig (a % B ^ i * b) (i + j))) / 4294967296, zs.set (i + j) ((c + (dig a i * dig b j + dig (a % B ^ i * b) (i + j))) % 4294967296))) ?_ ?_) ?_ ?_
      · (obtain ⟨k1, k2, k3, k4⟩ := sch_step (b := b) hu2 hl2 (by omega) d1 hc d5 hv2; exact ⟨k1, k2, by dsimp only; omega, k3, fun p hp hp2 => by rw [ZbF (by omega)]; exact hd p (by omega) hp2, k4⟩)
      · (dsimp only; omega)
      · (repeat' first | exact Zag | apply Zah | apply Z4)
      rfl
    have hjn : j = (lim b).length := by omega
    subst hjn;refine ARun.exit rfl ?_;refine gn ?_;refine Za rfl (Zf rfl rfl (Z1 (by omega))) ?_;refine Zr ?_;refine Za rfl (Zo rfl rfl rfl (IntWalk.u32_in _ (by omega))) ?_;refine Za rfl (ZS rfl rfl rfl rfl rfl (by omega) (by omega) (Zab rfl)) ?_;refine Zq rfl (Zad rfl rfl rfl rfl rfl rfl (by simp; omega) Zbi) ?_;refine gn ?_;refine Za rfl (Zf rfl rfl (Zi (by omega))) ?_;refine go ?_;refine ARun.ag (ih ((i + 1, zs.set (i + (lim b).length) c)) ?_ ?_)
    · (obtain ⟨k1, k2, k3⟩ := sch_row hu2 hl2 (by omega) hc rfl hv2; exact ⟨k1, k2, by dsimp only; omega, k3⟩)
    (dsimp only; omega)
  have hin : i = (lim a).length := by omega
  subst hin;refine ARun.exit rfl ?_;refine zzs ?_; refine Zr ?_;refine Zq rfl (Zcm rfl rfl (.cons (.row rfl (ZT _)) .nil) (ZcZ hu hl) rfl) ?_;refine go ?_;refine Zno ?_;rw [List.take_of_length_le (by omega), Zci (Nat.le_refl _)] at hv;rw [hv]
  try rfl
theorem Zco (a b : Nat) : (lim (a * b)).length ≤ (lim a).length + (lim b).length := by
  rw [Z6, Nat.pow_add];exact Nat.mul_lt_mul'' (ZcV a) (ZcV b)
theorem Zev (a b : Nat) : (lim (a + b)).length ≤ max (lim a).length (lim b).length + 1 := by
  rw [Z6, Nat.pow_succ];have h1 : a < B ^ max (lim a).length (lim b).length := Z6.1 (Nat.le_max_left _ _);have h2 : b < B ^ max (lim a).length (lim b).length := Z6.1 (Nat.le_max_right _ _);generalize B ^ max (lim a).length (lim b).length = q at h1 h2 ⊢;have : q * 2 ≤ q * B := Nat.mul_le_mul_left _ (by decide);omega
theorem ZfQ (a s : Nat) : (lim (a / B ^ s)).length = (lim a).length - s := by rw [← lim_drop, List.length_drop]
theorem ZhU (a s : Nat) : (lim (a % B ^ s)).length ≤ s := Zgu (Nat.mod_lt _ (Nat.pow_pos Zbj))
theorem ln_mod' (a s : Nat) : (lim (a % B ^ s)).length ≤ (lim a).length := Zn (Nat.mod_le _ _)
theorem kar_le (al ah bl bh : Nat) : ah * bh ≤ (al + ah) * (bl + bh) ∧ al * bl ≤ (al + ah) * (bl + bh) - ah * bh ∧ (al + ah) * (bl + bh) - ah * bh - al * bl = al * bh + ah * bl := by
  have h : (al + ah) * (bl + bh) = al * bl + al * bh + (ah * bl + ah * bh) := by rw [Nat.add_mul, Nat.mul_add, Nat.mul_add]
  omega
theorem kar_val (a b s : Nat) : a / B ^ s * (b / B ^ s) * 2 ^ (64 * s) + (a % B ^ s * (b / B ^ s) + a / B ^ s * (b % B ^ s)) * 2 ^ (32 * s) + a % B ^ s * (b % B ^ s) = a * b := by
  have e1 : 2 ^ (32 * s) = B ^ s := (ZdH s).symm
  have e2 : 2 ^ (64 * s) = B ^ s * B ^ s := by rw [← e1, ← Nat.pow_add]; congr 1; omega
  rw [e1, e2];have ha := Nat.div_add_mod a (B ^ s);have hb := Nat.div_add_mod b (B ^ s);generalize a / B ^ s = ah at ha ⊢;generalize a % B ^ s = al at ha ⊢;generalize b / B ^ s = bh at hb ⊢;generalize b % B ^ s = bl at hb ⊢;generalize B ^ s = q at ha hb ⊢;rw [← ha, ← hb, Nat.mul_add, Nat.add_mul, Nat.add_mul, Nat.add_mul]
  have h1 : q * ah * (q * bh) = ah * bh * (q * q) := by simp only [Nat.mul_comm, Nat.mul_left_comm, Nat.mul_assoc]
  have h2 : q * ah * bl = ah * bl * q := by simp only [Nat.mul_comm, Nat.mul_left_comm, Nat.mul_assoc]
  have h3 : al * (q * bh) = al * bh * q := by simp only [Nat.mul_comm, Nat.mul_left_comm, Nat.mul_assoc]
  omega
theorem ZhC (cut : Nat) (hc : 4 ≤ cut) (N : Nat) : ∀ (a b : Nat), (lim a).length < N → (lim b).length < N → N ≤ 4294967296 → PC C 231 [numD a, numD b, .int .i64 (cut : Int)] (fun o => o = .ret (numD (a * b))) := by
  induction N using Nat.strongRecOn with
  | _ N rec =>
  intro a b ha hb hN;refine Znr Tryz.func231 Tryz.ntmps231 Tryz.results231 ?_;refine gn ?_;refine Za rfl (ZhR rfl rfl nmin) ?_;refine go ?_;refine Znp rfl (fun h => ?_) (fun h => ?_)
  · skip
    refine go ?_;refine Zc rfl rfl (ZjL a b (by omega) (by omega)) ?_;refine go ?_;refine Zno ?_;rfl
  have hs : ∃ s, s = (max (lim a).length (lim b).length + 1) / 2 := ⟨_, rfl⟩;obtain ⟨s, hs⟩ := hs;have a1 := ZfQ a s;have a2 := ZhU a s;have a3 := ln_mod' a s;have b1 := ZfQ b s;have b2 := ZhU b s;have b3 := ln_mod' b s;have a4 := Zev (a % B ^ s) (a / B ^ s);have b4 := Zev (b % B ^ s) (b / B ^ s);have m1 := Zco (a / B ^ s) (b / B ^ s);have m2 := Zco (a % B ^ s) (b % B ^ s);have m3 := Zco (a % B ^ s + a / B ^ s) (b % B ^ s + b / B ^ s);obtain ⟨k1, k2, k3⟩ := kar_le (a % B ^ s) (a / B ^ s) (b % B ^ s) (b / B ^ s);have m4 := Zn (Nat.sub_le ((a % B ^ s + a / B ^ s) * (b % B ^ s + b / B ^ s)) (a / B ^ s * (b / B ^ s)));have m5 := Zn (Nat.sub_le ((a % B ^ s + a / B ^ s) * (b % B ^ s + b / B ^ s) - a / B ^ s * (b / B ^ s)) (a % B ^ s * (b % B ^ s)));have rec' := rec (N - 1) (by omega);have kv := kar_val a b s;rw [← k3] at kv
  have m6 : ∀ x : Nat, x ≤ a * b → (lim x).length ≤ 17179869184 := fun x hx => by have := Zn hx; have := Zco a b; omega
  refine gn ?_;refine Za rfl (q_maxR rfl rfl nmax) ?_;refine Za rfl (Zf rfl rfl (Zi (by omega))) ?_;refine Za rfl (ZaQ rfl rfl (by omega) (r := (s : Nat)) ((Zay (n := 2) rfl (by omega)).trans (by rw [hs]))) ?_;refine go ?_;refine Zc rfl rfl (Zbe a s (by omega)) ?_;refine go ?_;refine Zc rfl rfl (Zbe b s (by omega)) ?_;refine Zr ?_;refine Zc rfl rfl (rec' _ _ (by omega) (by omega) (by omega)) ?_;refine go ?_;refine Zc rfl rfl (Zb4 a s (by omega)) ?_;refine go ?_;refine Zc rfl rfl (Zb4 b s (by omega)) ?_;refine Zr ?_;refine Zc rfl rfl (rec' _ _ (by omega) (by omega) (by omega)) ?_;refine go ?_;refine Zc rfl rfl (Zb4 a s (by omega)) ?_;refine go ?_;refine Zc rfl rfl (Zbe a s (by omega)) ?_;refine Zc rfl rfl (ZaI _ _ (by omega) (by omega)) ?_;refine go ?_;refine Zc rfl rfl (Zb4 b s (by omega)) ?_;refine go ?_;refine Zc rfl rfl (Zbe b s (by omega)) ?_;refine Zc rfl rfl (ZaI _ _ (by omega) (by omega)) ?_;refine Zr ?_;refine Zc rfl rfl (rec' _ _ (by omega) (by omega) (by omega)) ?_;refine go ?_;refine Zc rfl rfl (Zb3 _ _ (by omega) k1) ?_;refine Zr ?_;refine Zc rfl rfl (Zb3 _ _ (by omega) k2) ?_;refine gn ?_;refine Za rfl (ZaC rfl rfl (ZaD (m := 64) (by omega))) ?_;refine Zc rfl rfl (Zb5 _ _ (by omega) (by omega)) ?_;refine gn ?_;refine Za rfl (ZaC rfl rfl (ZaD (m := 32) (by omega))) ?_;refine Zc rfl rfl (Zb5 _ _ (by omega) (by omega)) ?_;refine Zc rfl rfl (ZaI _ _ (Nat.le_trans (m6 _ (by omega)) (by decide)) (Nat.le_trans (m6 _ (by omega)) (by decide))) ?_;refine Zr ?_;refine Zc rfl rfl (ZaI _ _ (Nat.le_trans (m6 _ (by omega)) (by decide)) (by omega)) ?_;refine go ?_;refine Zno ?_;rw [kv]
  try rfl
theorem Zd2 (a b : Nat) (ha : (lim a).length < 4294967296) (hb : (lim b).length < 4294967296) : PC C 157 [numD a, numD b] (fun o => o = .ret (numD (a * b))) := by
  refine Znr Tryz.func157 Tryz.ntmps157 Tryz.results157 ?_;refine go ?_;refine Zc rfl rfl (ZhC 32 (by decide) 4294967296 a b ha hb (Nat.le_refl _)) ?_;refine go ?_;refine Zno ?_;rfl
theorem sh_step {a b r j n : Nat} {ys : List Nat} (hu : U32 ys) (hl : ys.length = n) (hj : j < ys.length) (hb : 0 < b) (hb2 : b < 4294967296) (hr : r < b) (hv : val (ys.drop (j + 1)) * b + r = a / B ^ (j + 1)) :
    U32 (ys.set j ((dig a j + r * 2 ^ 32) / b % 4294967296)) ∧ (ys.set j ((dig a j + r * 2 ^ 32) / b % 4294967296)).length = n ∧ (dig a j + r * 2 ^ 32) % b < b ∧
      val ((ys.set j ((dig a j + r * 2 ^ 32) / b % 4294967296)).drop j) * b + (dig a j + r * 2 ^ 32) % b = a / B ^ j := by
  have d := ZF a j;refine ⟨hu.set (Nat.mod_lt _ (by decide)), by simpa using hl, Nat.mod_lt _ hb, ?_⟩
  have hq : (dig a j + r * 2 ^ 32) / b < 4294967296 := by
    rw [Nat.div_lt_iff_lt_mul hb];have : (r + 1) * 4294967296 ≤ b * 4294967296 := Nat.mul_le_mul_right _ hr;have e := Nat.mul_comm b 4294967296;omega
  rw [Nat.mod_eq_of_lt hq]
  have e1 : (ys.set j ((dig a j + r * 2 ^ 32) / b)).drop j = (dig a j + r * 2 ^ 32) / b :: ys.drop (j + 1) := by
    rw [List.drop_eq_getElem_cons (by rw [List.length_set]; exact hj)];rw [List.getElem_set_self, List.drop_set_of_lt (Nat.lt_succ_self j)]
  have hm := Nat.div_add_mod (dig a j + r * 2 ^ 32) b
  have e2 : a / B ^ j = dig a j + B * (a / B ^ (j + 1)) := by
    rw [dig, Nat.pow_succ, ← Nat.div_div_eq_div_mul];exact (Nat.mod_add_div _ _).symm
  rw [e1, val, e2, ← hv, Nat.add_mul, Nat.mul_add];have e3 : B * val (ys.drop (j + 1)) * b = B * (val (ys.drop (j + 1)) * b) := Nat.mul_assoc _ _ _;have e4 := Nat.mul_comm ((dig a j + r * 2 ^ 32) / b) b;have e5 : r * 2 ^ 32 = B * r := Nat.mul_comm _ _;omega
theorem sh_end {a b r : Nat} {v : Nat} (hr : r < b) (hv : v * b + r = a / B ^ 0) : v = a / b ∧ r = a % b := by
  rw [Nat.pow_zero, Nat.div_one] at hv
  have hb : 0 < b := by omega
  constructor
  · rw [← hv, Nat.mul_comm, Nat.mul_add_div hb, Nat.div_eq_of_lt hr, Nat.add_zero]
  rw [← hv, Nat.mul_comm, Nat.mul_add_mod, Nat.mod_eq_of_lt hr]
theorem ZkD (a b : Nat) (ha : (lim a).length ≤ 1099511627776) (hb : 0 < b) (hb2 : b < 4294967296) : PC C 293 [numD a, .int .u32 (b : Int)] (fun o => o = .ret (.tup [numD (a / b), numD (a % b)])) := by
  refine Znr Tryz.func293 Tryz.ntmps293 Tryz.results293 ?_;refine zzs ?_; refine zza ?_; refine zza ?_; refine zzt ?_; refine Zr ?_; refine zzN ?_;refine Zq rfl (ZaG rfl rfl rfl rfl rfl rfl rfl (by omega) (by rw [Zy]; omega) (Za0 _)) ?_;refine gn ?_;refine Za rfl (Zk rfl rfl (IntWalk.i64_in _ (by omega))) ?_;refine go ?_;refine Znw (S := Nat × Nat × List Nat) (fun σ : Nat × Nat × List Nat => [(15, .any), (16, .any), (17, .any), (18, .any), (19, .any), (20, .any), (21, .any), (22, .any), (23, .any), (24, .any), (25, .any), (26, .any), (27, .any), (28, .any), (29, .any), (30, .any), (31, .any), (32, .any), (33, .any), (34, .any), (35, .any), (36, .any), (37, .any), (38, .any), (8, .int .i64 ((σ.1 : Int) - 1)), (7, .int .u64 (σ.2.1 : Int))]) (fun σ : Nat × Nat × List Nat => [some ⟨nts .u32 σ.2.2, Zs, 1, true, none⟩]) (fun σ : Nat × Nat × List Nat => U32 σ.2.2 ∧ σ.2.2.length = (lim a).length ∧ σ.1 ≤ σ.2.2.length ∧ σ.2.1 < b ∧ val (σ.2.2.drop σ.1) * b + σ.2.1 = a / B ^ σ.1) (fun σ : Nat × Nat × List Nat => σ.1) (((lim a).length, 0, List.replicate (lim a).length 0)) ?_ ?_
  · exact ⟨U32.replicate, by simp, by simp, hb, by simp [val, Nat.div_eq_of_lt (ZcV a)]⟩
  rintro ⟨j, r, ys⟩ hinv ih;dsimp only at hinv ih ⊢;obtain ⟨hu, hl, hj, hr, hv⟩ := hinv;refine go ?_;refine Znp rfl (fun h => ?_) (fun h => ?_)
  · skip
    obtain ⟨i, rfl⟩ : ∃ i, j = i + 1 := ⟨j - 1, by omega⟩;rw [show (((i + 1 : Nat) : Int) - 1) = (i : Int) by omega];have d1 := ZF a i;refine gn ?_;refine Za rfl (ZfN rfl rfl (by omega) (ZcA (s := 32) rfl (by omega) (by omega))) ?_;refine go ?_;refine Za rfl (Zm rfl rfl rfl rfl (by omega) (by omega) (Zam (by omega)) (ZM rfl)) ?_;refine Za rfl (ZP rfl rfl rfl (Zaj (by omega))) ?_;refine Za rfl (Zo rfl rfl rfl (Zt (by omega))) ?_;refine Za rfl (q_orR rfl rfl (Zji (by omega) (by omega))) ?_;refine go ?_;refine Za rfl (Zo rfl rfl rfl (Zt (by omega))) ?_;refine Za rfl (ZaQ rfl rfl (by omega) (ZeP rfl (by omega))) ?_;refine Za rfl (Zo rfl rfl rfl ZX) ?_;refine Za rfl (ZS rfl rfl rfl rfl rfl (by omega) (by omega) (Zab rfl)) ?_;refine Zq rfl (Zad rfl rfl rfl rfl rfl rfl (by simp; omega) Zbi) ?_;refine go ?_;refine Za rfl (Zo rfl rfl rfl (Zt (by omega))) ?_;refine Za rfl (Zdt rfl rfl (by omega) (nrem rfl)) ?_;refine gn ?_;refine Za rfl (Zk rfl rfl (IntWalk.i64_in _ (by omega))) ?_;refine go ?_;refine ARun.ag (ih ((i, (dig a i + r * 2 ^ 32) % b, ys.set i ((dig a i + r * 2 ^ 32) / b % 4294967296))) ?_ ?_)
    · (obtain ⟨k1, k2, k3, k4⟩ := sh_step hu hl (by omega) hb hb2 hr hv; exact ⟨k1, k2, by rw [k2]; omega, k3, k4⟩)
    (dsimp only; omega)
  have hj0 : j = 0 := by omega
  subst hj0;obtain ⟨e1, e2⟩ := sh_end hr hv;refine ARun.exit rfl ?_;refine zzs ?_; refine Zr ?_;refine Zq rfl (Zcm rfl rfl (.cons (.row rfl (ZT _)) .nil) (ZcZ hu hl) rfl) ?_;refine Zr ?_;refine Zc rfl rfl (Zf7 r (by omega)) ?_;refine go ?_;refine ZnA ?_;rw [List.drop_zero] at e1;rw [e1, e2]
  try rfl
theorem take_getD {zs : List Nat} {i : Nat} (h : i < zs.length) : zs.take (i + 1) = zs.take i ++ [zs.getD i 0] := by
  rw [List.take_add_one, List.getD_eq_getElem?_getD];simp [h]
theorem ZcB {zs : List Nat} {i : Nat} (h : i < zs.length) : val (zs.take (i + 1)) = val (zs.take i) + B ^ i * zs.getD i 0 := by
  rw [take_getD h, ZV, List.length_take, Nat.min_eq_left (Nat.le_of_lt h)];simp [val]
theorem tk_step {d q i c bw w n : Nat} {zs ws : List Nat} (hu : U32 zs) (hl : zs.length = n) (hi : i < zs.length) (hq : q < 4294967296) (hc : c < 4294967296) (hb : bw ≤ 1) (hw : w < 4294967296) (hwl : ws.length = n) (hwi : ws.getD i 0 = w)
    (hcb : c * B ^ i ≤ q * (d % B ^ i)) (hv : val (zs.take i) + q * (d % B ^ i) = val (ws.take i) + B ^ i * (bw + c)) :
    U32 (zs.set i (Zcy w ((c + q * dig d i) % 4294967296) bw)) ∧ (zs.set i (Zcy w ((c + q * dig d i) % 4294967296) bw)).length = n ∧ (c + q * dig d i) / 4294967296 < 4294967296 ∧ subC w ((c + q * dig d i) % 4294967296) bw ≤ 1 ∧
      (c + q * dig d i) / 4294967296 * B ^ (i + 1) ≤ q * (d % B ^ (i + 1)) ∧
      val ((zs.set i (Zcy w ((c + q * dig d i) % 4294967296) bw)).take (i + 1)) + q * (d % B ^ (i + 1)) = val (ws.take (i + 1)) + B ^ (i + 1) * (subC w ((c + q * dig d i) % 4294967296) bw + (c + q * dig d i) / 4294967296) := by
  have m := Zcj hq (ZF d i);have hlo : (c + q * dig d i) % 4294967296 < 4294967296 := Nat.mod_lt _ (by decide);refine ⟨hu.set (Zjg _ _ _), by simpa using hl, by omega, subC_le _ _ _, ?_, ?_⟩
  · rw [Zat, Nat.pow_succ, Nat.mul_comm (B ^ i) B, ← Nat.mul_assoc, Nat.mul_add]
    have h1 : (c + q * dig d i) / 4294967296 * B * B ^ i ≤ (c + q * dig d i) * B ^ i := Nat.mul_le_mul_right _ (Nat.div_mul_le_self _ _);rw [Nat.add_mul] at h1
    have h2 : q * dig d i * B ^ i = q * (B ^ i * dig d i) := by simp only [Nat.mul_comm, Nat.mul_left_comm, Nat.mul_assoc]
    omega
  rw [ZaV hi, Zat, ZcB (by omega), hwi, Nat.pow_succ, Nat.mul_assoc];have h1 := ZhS hw hlo hb;generalize hlow : (c + q * dig d i) % 4294967296 = lo at h1 hlo ⊢;generalize hbor : subC w lo bw = b1 at h1 ⊢;generalize hnew : Zcy w lo bw = nw at h1 ⊢
  have h2 : c + q * dig d i = lo + 4294967296 * ((c + q * dig d i) / 4294967296) := by rw [← hlow]; exact (Nat.mod_add_div _ _).symm
  generalize (c + q * dig d i) / 4294967296 = c1 at h2 ⊢
  have h3 : nw + q * dig d i + (bw + c) = w + B * (b1 + c1) := by rw [Nat.mul_add]; show _ = w + (4294967296 * b1 + 4294967296 * c1); omega
  have h4 := congrArg (B ^ i * ·) h3;simp only [Nat.mul_add] at h4 hv ⊢;have h5 : q * (B ^ i * dig d i) = B ^ i * (q * dig d i) := Nat.mul_left_comm _ _ _;omega
theorem tk_end {d q c bw n : Nat} {zs ws : List Nat} (hl : zs.length = n) (hwl : ws.length = n) (hqd : q * d < B ^ n) (hdn : d < B ^ n) (hcb : c * B ^ n ≤ q * (d % B ^ n)) (hv : val (zs.take n) + q * (d % B ^ n) = val (ws.take n) + B ^ n * (bw + c)) : val zs + q * d = val ws + B ^ n * bw := by
  rw [Nat.mod_eq_of_lt hdn] at hcb hv;rw [List.take_of_length_le (by omega), List.take_of_length_le (by omega)] at hv
  have hc0 : c = 0 := by
    rcases Nat.eq_zero_or_pos c with h | h
    · exact h
    have : 1 * B ^ n ≤ c * B ^ n := Nat.mul_le_mul_right _ h;omega
  subst hc0;exact hv
section
variable {C : Ctx} {Q : Post} {ops : Array Oper} {rest : List Oper} {k : List Item} {env : List D} {H H' : Heap} {df : List ADef}
variable {dst : Option Tmp} {ty : TypeId} {pos : String} {aft : Array Edge} {gd : Option (Nat × Bool)} {d : D} {x y : Operand}
theorem Zb9 {bop : BinOp} {ik : IntKind} {m n : Int} {xt yt : TypeId} {b b' : Bool} (hx : evO C env x = some (.int ik m)) (hy : evO C env y = some (.int ik n)) (h : ZfH bop ik m n = some (.bool b')) (hb : b' = b) : OpQ C ⟨dst, .binOp bop xt x y yt, ty, pos, aft, gd⟩ env H (.bool b) := by
  subst hb; exact Zaa hx hy h
theorem Ziy {f : FuncId} {caps ds ds' : List D} {args : List Operand} {tys : Array TypeId} {R : Out → Heap → Prop} {E : D → List D} [hput : ∀ d, Put env dst d (E d)] (hg : gOk ops.toList env gd = some true) (hx : evO C env x = some (.clos f caps)) (ha : evOs C env args = some ds) (hds : ds ++ caps = ds') (hc : HC C f H ds' R)
    (hk : ∀ d H', R (.ret d) H' → AOps C Q ops rest k (E d) H' df) (hp : ∀ d H', R (.pan d) H' → Q (.pan d) env H' df) : AOps C Q ops (⟨dst, .call ⟨.value x, args.toArray, tys⟩, ty, pos, aft, gd⟩ :: rest) k env H df := by
  subst hds;exact ZnO hg (ZhN (ids := []) hx ha (FzL.sames _) hc) (fun d H' h => by rw [(hput d).eq]; exact hk d H' h) hp
theorem HC.run {f : FuncId} {fn : Func} {c : Code} {args : List D} {R : Out → Heap → Prop} {n : Nat} (hf : C.P.funcs[f]? = some fn) (hen : Enters C.P f) (hb : fn.body = some c) (hn : fn.ntmps = n) {rs : List ResultVar} (hrs : fn.results.toList = rs) {env0 : List D} (he : args ++ List.replicate (n - args.length) (.tup []) = env0)
    (h : ARun C (QFin C rs R) [.code c] env0 H []) : HC C f H args R := by
  subst hrs; subst he;exact HC.of_run hf hen hb hn h
end
theorem ZdQ {k : IntKind} {pre zs post : List Nat} {off i : Nat} (ho : pre.length = off) (h : i < zs.length) : (nts k (pre ++ zs ++ post))[off + i]? = some (D.int k (zs.getD i 0 : Nat)) := by
  subst ho;rw [ZdP (by simp; omega)]
  congr 3
  rw [List.getD_eq_getElem?_getD, List.getD_eq_getElem?_getD, List.append_assoc, List.getElem?_append_right (by omega), List.getElem?_append_left (by omega)]
  congr 2
  omega
theorem Zgb {k : IntKind} {pre zs post : List Nat} {off i v : Nat} (ho : pre.length = off) (h : i < zs.length) : (nts k (pre ++ zs ++ post)).set (off + i) (D.int k (v : Int)) = nts k (pre ++ zs.set i v ++ post) := by
  subst ho;rw [Zbi]
  congr 1
  rw [List.append_assoc, List.append_assoc, List.set_append_right _ _ (by omega), List.set_append_left _ _ (by omega)]
  congr 3
  omega
theorem Zny {C : Ctx} {Q : Post} {k : List Item} {env : List D} {H : Heap} {df : List ADef} {S : Type} {c : Code} {E : S → List D} (cs : S → List (Nat × D)) (J : S → Prop) [hE : ∀ s, Puts env (cs s) (E s)] (h1 : (∀ s, J s → ARun C Q k (E s) H df) → ARun C Q (.code c :: k) env H df) (h2 : ∀ s, J s → ARun C Q k (E s) H df) : ARun C Q (.code c :: k) env H df := h1 h2
inductive DChP (C : Ctx) (ops : Array Oper) (H : Heap) (KP : D → Prop) (P : List D → Prop → Prop) : List Oper → List D → Prop → Prop
  | nil {env : List D} {G : Prop} : P env G → DChP C ops H KP P [] env G
  | op {o : Oper} {rest : List Oper} {env env' : List D} {d : D} {G : Prop} : gOk ops.toList (Zar (o.looksAt ops) 0 env) o.guard = some true → OpQ C o (Zar (o.looksAt ops) 0 env) H d → [Put env o.dst d env'] → DChP C ops H KP P rest env' G → DChP C ops H KP P (o :: rest) env G
  | opP {o : Oper} {rest : List Oper} {env env' : List D} {d : D} {g G : Prop} : gOk ops.toList (Zar (o.looksAt ops) 0 env) o.guard = some true → OpG C o (Zar (o.looksAt ops) 0 env) H d g KP → [Put env o.dst d env'] → DChP C ops H KP P rest env' (G ∧ g) → DChP C ops H KP P (o :: rest) env G
  | skip {o : Oper} {rest : List Oper} {env env' : List D} {G : Prop} : gOk ops.toList (Zar (o.looksAt ops) 0 env) o.guard = some false → [Put env o.dst (.tup []) env'] → DChP C ops H KP P rest env' G → DChP C ops H KP P (o :: rest) env G
theorem DChP.chain {C : Ctx} {ops : Array Oper} {H : Heap} {KP : D → Prop} {P : List D → Prop → Prop} (hP : ∀ env G G', (G → G') → P env G' → P env G) {l : List Oper} {env : List D} {G : Prop} (h : DChP C ops H KP P l env G) : ∃ envF G', DCh C ops H KP l env envF G' ∧ P envF (G ∧ G') := by
  induction h with
  | nil h => exact ⟨_, _, .nil, hP _ _ _ (fun x => x.1) h⟩
  | op h1 h2 _ ih => obtain ⟨eF, G', k1, k2⟩ := ih; exact ⟨eF, G', .op h1 h2 k1, k2⟩
  | opP h1 h2 _ ih => obtain ⟨eF, G', k1, k2⟩ := ih; exact ⟨eF, _, .opP h1 h2 k1, hP _ _ _ (fun x => ⟨⟨x.1, x.2.1⟩, x.2.2⟩) k2⟩
  | skip h1 _ ih => obtain ⟨eF, G', k1, k2⟩ := ih; exact ⟨eF, G', .skip h1 k1, k2⟩
theorem ZnJ {C : Ctx} {Q : Post} {l suf : List Oper} {k : List Item} {env : List D} {H : Heap} {df : List ADef} {id : Nat} (n : Nat) {pre : List Oper} (KP : D → Prop) (hmix : C.P.follows .mixedOrders = true) (hpre : l.take n = pre) (hsuf : l.drop n = suf) (hB : Zea l pre.length = true) (hp : ∀ env' d, KP d → Q (.pan d) env' H df)
    (hch : DChP C l.toArray H KP (fun envF G => G → AOps C Q l.toArray suf k envF H df) pre env True) : ARun C Q (.code (.region id l.toArray true) :: k) env H df := by
  obtain ⟨envF, G', h1, h2⟩ := hch.chain (fun _ _ _ hg h x => h (hg x));exact ARun.drawn hmix hpre hsuf hB h1 hp (fun x => h2 ⟨trivial, x⟩)
theorem ZnT {C : Ctx} {Q : Post} {l suf : List Oper} {k : List Item} {env : List D} {H : Heap} {df : List ADef} {id : Nat} (n : Nat) {pre : List Oper} (KP : D → Prop) (hmix : C.P.follows .mixedOrders = true) (hpre : l.take n = pre) (hsuf : l.drop n = suf) (hB : Zea l pre.length = true) (hp : ∀ env' d, (∀ t, (∀ j, ZaN l j ≠ some t) → env'[t]? = env[t]?) → KP d → Q (.pan d) env' H df)
    (hch : DChP C l.toArray H KP (fun envF G => G → AOps C Q l.toArray suf k envF H df) pre env True) : ARun C Q (.code (.region id l.toArray true) :: k) env H df := by
  obtain ⟨envF, G', h1, h2⟩ := hch.chain (fun _ _ _ hg h x => h (hg x));exact ZnW hmix hpre hsuf hB h1 hp (fun x => h2 ⟨trivial, x⟩)
theorem ZnX {C : Ctx} {Q : Post} {k : List Item} {env e1 : List D} {H : Heap} {df : List ADef} (t : Nat) (ht : env[t]? = some .nilsl) [hp : Put env (some t) (.sl 0 []) e1] (h : ARun C Q k e1 H df) : ARun C Q k env H df := by
  have e := hp.eq;simp only [Zu] at e;subst e;refine ⟨fun L0 w0 μ0 H0 w μ a hs hv hd he b cs hrd => h.out L0 w0 μ0 H0 w μ a hs ?_ hd he b cs hrd⟩
  have key : ∀ (env : List D) (vs : List Value) (t : Nat), env[t]? = some .nilsl → VRs w (forb L0 μ H) μ H env vs → VRs w (forb L0 μ H) μ H (env.set t (.sl 0 [])) vs := by
    intro env
    induction env with
    | nil => intro vs t h _; simp at h
    | cons d ds ih =>
      intro vs t h hv;simp only [VRs] at hv;obtain ⟨v, us, rfl, h1, h2⟩ := hv
      cases t with
      | zero =>
        simp at h;subst h;simp only [VR] at h1;simp only [List.set_cons_zero, VRs, VR];exact ⟨v, us, rfl, ⟨none, 0, h1, Nat.le_refl _, Nat.zero_le _, fun h => (h rfl).elim⟩, h2⟩
      | succ t =>
        simp only [List.set_cons_succ, VRs];exact ⟨v, us, rfl, h1, ih us t (by simpa using h) h2⟩
  exact key env _ t ht hv
section
variable {C : Ctx} {ops : Array Oper} {H : Heap} {KP : D → Prop} {P : List D → Prop → Prop} {rest : List Oper} {env env' : List D} {G : Prop} {dst : Option Tmp} {ty : TypeId} {pos : String} {aft : Array Edge} {gd : Option (Nat × Bool)} {d : D} {x : Operand} {T : TypeId} {te : TE}
theorem zdm [hp : Put env dst d env'] (hk : DChP C ops H KP P rest env' G) (hg : gOk ops.toList (Zar ((⟨dst, .move x, ty, pos, aft, gd⟩ : Oper).looksAt ops) 0 env) gd = some true := by rfl) (h : evO C (Zar ((⟨dst, .move x, ty, pos, aft, gd⟩ : Oper).looksAt ops) 0 env) x = some d := by rfl) : DChP C ops H KP P (⟨dst, .move x, ty, pos, aft, gd⟩ :: rest) env G := .op hg (ZaH h) hk
theorem zdf {f o sz S b : Nat} {cs : List D} {zv : Value} {pl : List (Nat × Nat)} [hp : Put env dst (.sptr (cs.drop o)) env'] (hk : DChP C ops H KP P rest env' G) (hg : gOk ops.toList (Zar ((⟨dst, .fieldAddr T x f, ty, pos, aft, gd⟩ : Oper).looksAt ops) 0 env) gd = some true := by rfl) (hx : evO C (Zar ((⟨dst, .fieldAddr T x f, ty, pos, aft, gd⟩ : Oper).looksAt ops) 0 env) x = some (.sptr cs) := by rfl) (hs : C.ty T = some ⟨.struct pl, S, b, zv⟩ := by rfl) (hf : pl[f]? = some (o, sz) := by rfl) (h0 : sz ≠ 0 := by decide) : DChP C ops H KP P (⟨dst, .fieldAddr T x f, ty, pos, aft, gd⟩ :: rest) env G := .op hg (Zb7 hx hs hf h0) hk
theorem zdl {cs : List D} [hp : Put env dst d env'] (hk : DChP C ops H KP P rest env' G) (hg : gOk ops.toList (Zar ((⟨dst, .load T x, ty, pos, aft, gd⟩ : Oper).looksAt ops) 0 env) gd = some true := by rfl) (hx : evO C (Zar ((⟨dst, .load T x, ty, pos, aft, gd⟩ : Oper).looksAt ops) 0 env) x = some (.sptr cs) := by rfl) (ht : C.ty T = some te := by rfl) (ha : aggK te.k = false := by rfl) (hd : cs[0]? = some d := by rfl) : DChP C ops H KP P (⟨dst, .load T x, ty, pos, aft, gd⟩ :: rest) env G := .op hg (ZP hx ht ha hd) hk
theorem zdr {C : Ctx} {Q : Post} {l suf : List Oper} {k : List Item} {env : List D} {H : Heap} {df : List ADef} {id : Nat} (n : Nat) {pre : List Oper} (hmix : C.P.follows .mixedOrders = true) (hch : DChP C l.toArray H (fun _ => False) (fun envF G => G → AOps C Q l.toArray suf k envF H df) pre env True) (hpre : l.take n = pre := by rfl) (hsuf : l.drop n = suf := by rfl) (hB : Zea l pre.length = true := by kernel_rfl) : ARun C Q (.code (.region id l.toArray true) :: k) env H df := ZnJ n (fun _ => False) hmix hpre hsuf hB (fun _ _ h => h.elim) hch
end
theorem gd {P P' : Prop} (k : P') (h : P' → P := by intro k; (repeat (first | refine zdm ?_ | refine zdf ?_ | refine zdl ?_)); exact k) : P := h k
theorem ZmM (d q n off : Nat) (pre ws post : List Nat) (o2 : Option AObj) (ho : pre.length = off) (hu : U32 ws) (hn : ws.length = n) (hN : n ≤ 1099511627776) (hq : q < 4294967296) (hqd : q * d < B ^ n) (hdn : d < B ^ n) :
    HC C 315 [some ⟨nts .u32 (pre ++ ws ++ post), Zs, 1, true, none⟩, o2] [.sub 0 off n, numD d, .int .u64 (q : Int)] (fun o H' => ∃ zs bw, U32 zs ∧ zs.length = n ∧ bw ≤ 1 ∧ val zs + q * d = val ws + B ^ n * bw ∧ o = .ret (.bool (decide (0 < bw))) ∧ H' = [some ⟨nts .u32 (pre ++ zs ++ post), Zs, 1, true, none⟩, o2]) := by
  refine HC.run ZgQ ZkA rfl ZkB (rs := [.tmp 6]) (by rw [ZkC]) (by simp only [List.length_cons, List.length_nil, Nat.reduceAdd, Nat.reduceSub, List.replicate_succ, List.replicate_zero, List.cons_append, List.nil_append]; exact rfl) ?_;refine go ?_;refine Za rfl (ZiR rfl rfl) ?_;refine go ?_;refine Znw (S := Nat × Nat × Nat × List Nat) (fun σ : Nat × Nat × Nat × List Nat => [(9, .any), (10, .any), (14, .any), (15, .any), (16, .any), (17, .any), (18, .any), (19, .any), (20, .any), (21, .any), (22, .any), (23, .any), (24, .any), (25, .any), (26, .any), (27, .any), (28, .any), (29, .any), (30, .any), (31, .any), (32, .any), (33, .any), (34, .any), (35, .any), (36, .any), (37, .any), (38, .any), (39, .any), (40, .any), (41, .any), (42, .any), (43, .any), (13, .int .i64 (σ.1 : Int)), (7, .int .u64 (σ.2.1 : Int)), (8, .int .u64 (σ.2.2.1 : Int))]) (fun σ : Nat × Nat × Nat × List Nat => [some ⟨nts .u32 (pre ++ σ.2.2.2 ++ post), Zs, 1, true, none⟩, o2]) (fun σ : Nat × Nat × Nat × List Nat => U32 σ.2.2.2 ∧ σ.2.2.2.length = n ∧ σ.1 ≤ n ∧ σ.2.1 < 4294967296 ∧ σ.2.2.1 ≤ 1 ∧ (∀ p, σ.1 ≤ p → σ.2.2.2.getD p 0 = ws.getD p 0) ∧ σ.2.1 * B ^ σ.1 ≤ q * (d % B ^ σ.1) ∧ val (σ.2.2.2.take σ.1) + q * (d % B ^ σ.1) = val (ws.take σ.1) + B ^ σ.1 * (σ.2.2.1 + σ.2.1)) (fun σ : Nat × Nat × Nat × List Nat => n - σ.1) ((0, 0, 0, ws)) ?_ ?_
  · exact ⟨hu, hn, by simp, by simp, by simp, fun p _ => rfl, by simp, by simp [val, Nat.mod_one]⟩
  rintro ⟨i, c, bw, zs⟩ hinv ih;dsimp only at hinv ih ⊢;obtain ⟨hz, hl, hi, hc, hb, hp, hcb, hv⟩ := hinv;refine go ?_;refine Znp rfl (fun h => ?_) (fun h => ?_)
  · skip
    have d1 := ZF d i;have m := Zcj hq d1;have d2 := hz.get i;have hlo : (c + q * dig d i) % 4294967296 < 4294967296 := Nat.mod_lt _ (by decide);refine go ?_;refine Zc rfl rfl (ZcP d i) ?_;refine Za rfl (ZaC rfl rfl (Zdv (by omega))) ?_;refine Za rfl (Zf rfl rfl (Zaf (by omega))) ?_;refine go ?_;refine Za rfl (Zd1 rfl rfl rfl rfl (by omega) (by omega) (Zff rfl)) ?_;refine Za rfl (ZC rfl rfl rfl rfl (ZdQ (by assumption) (by omega))) ?_;refine Za rfl (Zo rfl rfl rfl (Zt (by omega))) ?_;refine Zr ?_;refine Za rfl (Zo rfl rfl rfl ZX) ?_;refine Za rfl (Zo rfl rfl rfl (Zt (by omega))) ?_;refine Za rfl (Zk rfl rfl rfl) ?_;refine Zr ?_;refine Za rfl (Zk rfl rfl rfl) ?_;refine go ?_;refine Za rfl (Zo rfl rfl rfl (Zjf d2 hlo hb)) ?_;refine Za rfl (Zd1 rfl rfl rfl rfl (by omega) (by omega) (Zff rfl)) ?_;refine Zq rfl (Zad rfl rfl rfl rfl rfl rfl (by simp; omega) (Zgb (by assumption) (by omega))) ?_;refine gn ?_;refine Za rfl (Za5 rfl rfl (by omega) (sub_c d2 hlo hb)) ?_;refine gn ?_;refine Za rfl (Za5 rfl rfl (by omega) Zcn) ?_;refine gn ?_;refine Za rfl (Zf rfl rfl (Zi (by omega))) ?_;refine go ?_;refine ARun.ag (ih ((i + 1, (c + q * dig d i) / 4294967296, subC (zs.getD i 0) ((c + q * dig d i) % 4294967296) bw, zs.set i (Zcy (zs.getD i 0) ((c + q * dig d i) % 4294967296) bw))) ?_ ?_)
    · (obtain ⟨k1, k2, k3, k4, k5, k6⟩ := tk_step (w := zs.getD i 0) hz hl (by omega) hq hc hb d2 hn (hp i (Nat.le_refl _)).symm hcb hv; exact ⟨k1, k2, by dsimp only; omega, k3, k4, fun p hp2 => by rw [ZbF (by omega)]; exact hp p (by omega), k5, k6⟩)
    (dsimp only; omega)
  have hin : i = n := by omega
  subst hin;refine ARun.exit rfl ?_;refine go ?_;refine ARun.ret ?_;refine ⟨_, _, _, .tmp rfl .nil, .cons (.same _) .nil, ?_⟩;exact ⟨zs, bw, hz, hl, hb, tk_end hl hn hqd hdn hcb hv, by simp [tupD], rfl⟩
structure Kn (d W v1 v2 u0 u1 u2 : Nat) (m : Nat) : Prop where
  dd : ∃ d0, d0 < B ^ m ∧ d = d0 + B ^ m * v2 + B ^ (m + 1) * v1
  ww : ∃ w0, w0 < B ^ m ∧ W = w0 + B ^ m * u2 + B ^ (m + 1) * u1 + B ^ (m + 2) * u0
  hv1 : 2147483648 ≤ v1
  hv1' : v1 < 4294967296
  hv2' : v2 < 4294967296
  hu0' : u0 < 4294967296
  hu1' : u1 < 4294967296
  hu2' : u2 < 4294967296
  lt : W < B * d
theorem Kn.of {d m n : Nat} {ws : List Nat} (hn : n = m + 2) (hd : (lim d).length = n) (hv : 2147483648 ≤ dig d (n - 1)) (hu : U32 ws) (hl : ws.length = n + 1) (hlt : val ws < B * d) :
    Kn d (val ws) (dig d (n - 1)) (dig d (n - 2)) (ws.getD n 0) (ws.getD (n - 1) 0) (ws.getD (n - 2) 0) m := by
  subst hn;refine ⟨⟨d % B ^ m, Nat.mod_lt _ (Nat.pow_pos Zbj), ?_⟩, ⟨val (ws.take m), ?_, ?_⟩, hv, ZF _ _, ZF _ _, hu.get _, hu.get _, hu.get _, hlt⟩
  · have h := Zci (a := d) (k := m + 2) (by omega)
    rw [Zat, Zat] at h;exact h.symm
  · have := Zec (hu.take m)
    rwa [List.length_take, Nat.min_eq_left (by omega)] at this
  have h : ws.take (m + 2 + 1) = ws := List.take_of_length_le (by omega);have h2 := ZcB (zs := ws) (i := m + 2) (by omega);rw [h, ZcB (by omega), ZcB (by omega)] at h2;exact h2
section
variable {d W v1 v2 u0 u1 u2 m : Nat} (k : Kn d W v1 v2 u0 u1 u2 m)
include k
theorem Kn.pos : 0 < d := by
  have := k.lt
  rcases Nat.eq_zero_or_pos d with h | h
  · subst h; omega
  exact h
theorem Kn.units : ∃ P d0 w0 : Nat, 0 < P ∧ d0 < P ∧ w0 < P ∧ d = d0 + P * (v1 * B + v2) ∧ W = w0 + P * ((u1 + u0 * B) * B + u2) := by
  obtain ⟨d0, h1, h2⟩ := k.dd;obtain ⟨w0, h3, h4⟩ := k.ww;refine ⟨B ^ m, d0, w0, Nat.pow_pos Zbj, h1, h3, ?_, ?_⟩
  · rw [h2, Nat.mul_add, Nat.pow_succ]
    have : B ^ m * (v1 * B) = B ^ m * B * v1 := by simp only [Nat.mul_comm, Nat.mul_left_comm, Nat.mul_assoc]
    omega
  have p1 : B ^ (m + 1) = B ^ m * B := Nat.pow_succ ..
  have p2 : B ^ (m + 2) = B ^ m * B * B := by rw [Nat.pow_succ, Nat.pow_succ]
  rw [h4, Nat.mul_add, Nat.add_mul, Nat.mul_add, p1, p2]
  have e1 : B ^ m * (u1 * B) = B ^ m * B * u1 := by simp only [Nat.mul_comm, Nat.mul_left_comm, Nat.mul_assoc]
  have e2 : B ^ m * (u0 * B * B) = B ^ m * B * B * u0 := by simp only [Nat.mul_comm, Nat.mul_left_comm, Nat.mul_assoc]
  omega
theorem Kn.first : W / d ≤ min ((u1 + u0 * B) / v1) 4294967295 := by
  obtain ⟨P, d0, w0, hP, h1, h2, h3, h4⟩ := k.units;have hlt := k.lt;have hv := k.hv1;refine Nat.le_min.2 ⟨?_, ?_⟩
  · rw [Nat.le_div_iff_mul_le (by omega)]
    have e1 := Nat.div_mul_le_self W d;have e2 : W / d * (P * (v1 * B)) ≤ W / d * d := Nat.mul_le_mul_left _ (by rw [h3, Nat.mul_add]; omega)
    have e3 : W < P * ((u1 + u0 * B + 1) * B) := by
      have hu2 := k.hu2';have : P * ((u1 + u0 * B) * B + u2 + 1) ≤ P * ((u1 + u0 * B + 1) * B) := Nat.mul_le_mul_left _ (by rw [Nat.add_mul _ 1 B]; have := B_eq; omega);rw [Nat.mul_add _ _ 1] at this;omega
    have e4 : P * B * (W / d * v1) < P * B * (u1 + u0 * B + 1) := by
      have a1 : W / d * (P * (v1 * B)) = P * B * (W / d * v1) := by simp only [Nat.mul_comm, Nat.mul_left_comm, Nat.mul_assoc]
      have a2 : P * ((u1 + u0 * B + 1) * B) = P * B * (u1 + u0 * B + 1) := by simp only [Nat.mul_comm, Nat.mul_left_comm, Nat.mul_assoc]
      omega
    have := Nat.lt_of_mul_lt_mul_left e4;omega
  have : W / d < B := (Nat.div_lt_iff_lt_mul k.pos).2 hlt;have := B_eq;omega
theorem Kn.low {q r : Nat} (hr : q * v1 + r = u1 + u0 * B) (h : r * B + u2 < q * v2) : W / d ≤ q - 1 ∧ 1 ≤ q := by
  obtain ⟨P, d0, w0, hP, h1, h2, h3, h4⟩ := k.units
  have e1 : (u1 + u0 * B) * B + u2 + 1 ≤ q * (v1 * B + v2) := by
    rw [← hr, Nat.add_mul, Nat.mul_add, ← Nat.mul_assoc]; omega
  have e2 : P * ((u1 + u0 * B) * B + u2 + 1) ≤ P * (q * (v1 * B + v2)) := Nat.mul_le_mul_left _ e1
  have e3 : P * (q * (v1 * B + v2)) ≤ q * d := by
    have a1 := Nat.mul_add q d0 (P * (v1 * B + v2));have a2 := Nat.mul_left_comm q P (v1 * B + v2);rw [h3]; omega
  rw [Nat.mul_add _ _ 1] at e2
  have e4 : W < q * d := by omega
  have h5 := (Nat.div_lt_iff_lt_mul k.pos).2 e4;generalize W / d = z at h5 ⊢;omega
theorem Kn.high {q r : Nat} (hq : q < 4294967296) (hr : q * v1 + r = u1 + u0 * B) (h : q * v2 ≤ r * B + u2) : q * d ≤ W + d := by
  obtain ⟨P, d0, w0, hP, h1, h2, h3, h4⟩ := k.units
  have e1 : q * (v1 * B + v2) ≤ (u1 + u0 * B) * B + u2 := by
    rw [← hr, Nat.add_mul, Nat.mul_add, ← Nat.mul_assoc]; omega
  have e2 : P * (q * (v1 * B + v2)) ≤ P * ((u1 + u0 * B) * B + u2) := Nat.mul_le_mul_left _ e1
  have e3 : q * d = q * d0 + P * (q * (v1 * B + v2)) := by
    have a1 := Nat.mul_add q d0 (P * (v1 * B + v2));have a2 := Nat.mul_left_comm q P (v1 * B + v2);rw [h3]; omega
  have e4 : q * d0 ≤ B * P := Nat.mul_le_mul (Nat.le_of_lt hq) (Nat.le_of_lt h1)
  have e5 : B * P ≤ P * (v1 * B + v2) := by
    rw [Nat.mul_comm];refine Nat.mul_le_mul_left _ ?_;have : 1 * B ≤ v1 * B := Nat.mul_le_mul_right _ (by have := k.hv1; omega);omega
  omega
theorem Kn.big {q r : Nat} (hq : q < 4294967296) (hr : 4294967296 ≤ r) : q * v2 ≤ r * B + u2 := by
  have h1 := Zcj hq k.hv2';have h2 : 4294967296 * B ≤ r * B := Nat.mul_le_mul_right _ hr;have := B_eq;omega
theorem Kn.exact {q : Nat} (h1 : W / d ≤ q) (h2 : q * d ≤ W) : q = W / d ∧ W - q * d = W % d := by
  have h3 : q ≤ W / d := (Nat.le_div_iff_mul_le k.pos).2 h2;have h4 : q = W / d := Nat.le_antisymm h3 h1;refine ⟨h4, ?_⟩;rw [h4];have := Nat.div_add_mod W d;rw [Nat.mul_comm] at this;omega
theorem Kn.back {q : Nat} (h1 : W < q * d) (h2 : q * d ≤ W + d) : q - 1 = W / d ∧ W + d - q * d = W % d := by
  have hq : 1 ≤ q := by
    rcases Nat.eq_zero_or_pos q with h | h
    · subst h; omega
    exact h
  obtain ⟨p, rfl⟩ : ∃ p, q = p + 1 := ⟨q - 1, by omega⟩;rw [Nat.add_mul, Nat.one_mul] at h1 h2 ⊢
  have h3 : W / d ≤ p := by
    have : W / d < p + 1 := (Nat.div_lt_iff_lt_mul k.pos).2 (by rw [Nat.add_mul, Nat.one_mul]; exact h1);omega
  have := k.exact h3 (by omega);refine ⟨by omega, by omega⟩
end
theorem B_two : B = 2 ^ 32 := rfl
theorem ZhV {d i c n : Nat} {ys zs : List Nat} (hu : U32 ys) (hl : ys.length = n) (hz : zs.length = n) (hi : i < n) (hc : c ≤ 1) (hy : ys.getD i 0 = zs.getD i 0) (hv : val (ys.take i) + B ^ i * c = val (zs.take i) + d % B ^ i) :
    U32 (ys.set i ((c + (ys.getD i 0 + dig d i)) % 4294967296)) ∧ (ys.set i ((c + (ys.getD i 0 + dig d i)) % 4294967296)).length = n ∧ (c + (ys.getD i 0 + dig d i)) / 4294967296 ≤ 1 ∧
      val ((ys.set i ((c + (ys.getD i 0 + dig d i)) % 4294967296)).take (i + 1)) + B ^ (i + 1) * ((c + (ys.getD i 0 + dig d i)) / 4294967296) = val (zs.take (i + 1)) + d % B ^ (i + 1) := by
  have d1 := hu.get i;have d2 := ZF d i;refine ⟨hu.set (Nat.mod_lt _ (by decide)), by simpa using hl, by omega, ?_⟩;rw [ZaV (by omega), Zat, ZcB (by omega), ← hy, Nat.pow_succ, Nat.mul_assoc];generalize hs : c + (ys.getD i 0 + dig d i) = s
  have h1 : B ^ i * (s % 4294967296) + B ^ i * (B * (s / 4294967296)) = B ^ i * s := by
    rw [← Nat.mul_add]; congr 1; exact Nat.mod_add_div s B
  have h2 : B ^ i * s = B ^ i * c + (B ^ i * ys.getD i 0 + B ^ i * dig d i) := by rw [← hs, Nat.mul_add, Nat.mul_add]
  omega
theorem back_end {d c n : Nat} {ys zs : List Nat} (hl : ys.length = n) (hz : zs.length = n) (hdn : d < B ^ n) (hu : U32 ys) (hc : c ≤ 1) (hv : val (ys.take n) + B ^ n * c = val (zs.take n) + d % B ^ n) (hzs : val zs < B ^ n) (hge : B ^ n ≤ val zs + d) : val ys + B ^ n = val zs + d := by
  rw [Nat.mod_eq_of_lt hdn, List.take_of_length_le (by omega), List.take_of_length_le (by omega)] at hv;have := Zec hu;rw [hl] at this
  have hc1 : c = 1 := by
    rcases Nat.eq_zero_or_pos c with h | h
    · subst h; omega
    omega
  subst hc1;omega
end Go.V
