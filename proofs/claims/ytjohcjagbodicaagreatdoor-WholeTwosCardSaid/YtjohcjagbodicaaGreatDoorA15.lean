/- A part of the proof: abstract values, rules for the steps of the program's form, and contracts of its functions, each proved; no condition. -/
import Derived.Test.YtjohcjagbodicaaGreatDoorA14
import Derived.Test.YtjohcjagbodicaaGreatDoorTie
import Derived.Test.YtjohcjagbodicaaGreatDoorCards
import Derived.ProofKit
import Derived.OpenShut
import Derived.LaidMore
import Derived.Lay
import Derived.SevenTiedAt
import Derived.Carry
import Derived.Stop.Joined
set_option linter.unusedVariables false
set_option linter.unusedSimpArgs false
namespace Go.V
theorem bo_two (op : Int) (p q : Nat) : bo op p q = 2 * bo op (p / 2) (q / 2) + bo op (p % 2) (q % 2) := by
  have h1 := bo_div op p q 1
  have h2 := bo_mod op p q 1
  rw [show (2 : Nat) ^ 1 = 2 from rfl] at h1 h2
  rw [← h1, ← h2]
  omega
theorem mod2 (p : Nat) : p % 2 = 0 ∨ p % 2 = 1 := by omega
theorem bo_small (x y : Nat) (hx : x = 0 ∨ x = 1) (hy : y = 0 ∨ y = 1) : bo 1 x y = min x y ∧ bo 2 x y = max x y ∧ bo 3 x y = (x + y) % 2 := by
  rcases hx with rfl | rfl <;> rcases hy with rfl | rfl <;> decide
theorem bo_sum : ∀ (n p q : Nat), p < 2 ^ n → q < 2 ^ n → bo 1 p q + bo 2 p q = p + q ∧ bo 3 p q + bo 1 p q = bo 2 p q
  | 0, p, q, hp, hq => by
    have hp : p = 0 := by simpa using hp
    have hq : q = 0 := by simpa using hq
    subst hp; subst hq; decide
  | n + 1, p, q, hp, hq => by
    rw [Nat.pow_succ] at hp hq
    obtain ⟨i1, i2⟩ := bo_sum n (p / 2) (q / 2) (by omega) (by omega)
    obtain ⟨s1, s2, s3⟩ := bo_small (p % 2) (q % 2) (mod2 p) (mod2 q)
    rw [bo_two 1 p q, bo_two 2 p q, bo_two 3 p q, s1, s2, s3]
    rcases mod2 p with h | h <;> rcases mod2 q with h' | h' <;> rw [h, h'] <;> constructor <;> omega
theorem bo_neg : ∀ (n p q : Nat), p < 2 ^ n → q < 2 ^ n → bo 2 (2 ^ n - 1 - p) (2 ^ n - 1 - q) + bo 1 p q + 1 = 2 ^ n
  | 0, p, q, hp, hq => by
    have hp : p = 0 := by simpa using hp
    have hq : q = 0 := by simpa using hq
    subst hp; subst hq; decide
  | n + 1, p, q, hp, hq => by
    have e : 2 ^ (n + 1) = 2 * 2 ^ n := by rw [Nat.pow_succ, Nat.mul_comm]
    rw [e] at hp hq ⊢
    have ih := bo_neg n (p / 2) (q / 2) (by omega) (by omega)
    obtain ⟨s1, _, _⟩ := bo_small (p % 2) (q % 2) (mod2 p) (mod2 q)
    obtain ⟨_, s2, _⟩ := bo_small (1 - p % 2) (1 - q % 2) (by omega) (by omega)
    rw [bo_two 1 p q, bo_two 2 (2 * 2 ^ n - 1 - p), s1]
    rw [show (2 * 2 ^ n - 1 - p) / 2 = 2 ^ n - 1 - p / 2 by omega, show (2 * 2 ^ n - 1 - q) / 2 = 2 ^ n - 1 - q / 2 by omega, show (2 * 2 ^ n - 1 - p) % 2 = 1 - p % 2 by omega, show (2 * 2 ^ n - 1 - q) % 2 = 1 - q % 2 by omega, s2]
    generalize bo 2 (2 ^ n - 1 - p / 2) (2 ^ n - 1 - q / 2) = u at *
    generalize bo 1 (p / 2) (q / 2) = v at *
    rcases mod2 p with h | h <;> rcases mod2 q with h' | h' <;> rw [h, h'] <;> omega
section
variable {N : Nat} {a b : Int}
theorem tw_not (ha : inB N a) : tw N (-a - 1) = B ^ N - 1 - tw N a ∧ inB N (-a - 1) := by
  have h2 : inB N (-a - 1) := by unfold inB at *; omega
  have h1 := ha.tw
  have h3 := h2.tw
  refine ⟨?_, h2⟩
  by_cases h : a < 0
  · rw [decide_eq_true h, cond_true] at h1
    rw [decide_eq_false (show ¬ -a - 1 < 0 by omega), cond_false] at h3
    omega
  · rw [decide_eq_false h, cond_false] at h1
    rw [decide_eq_true (show -a - 1 < 0 by omega), cond_true] at h3
    omega
theorem bitN_sum (ha : inB N a) (hb : inB N b) : bitN 1 N a b + bitN 2 N a b = a + b ∧ bitN 3 N a b = bitN 2 N a b - bitN 1 N a b := by
  have h1 := ha.tw
  have h2 := hb.tw
  have hp := tw_lt N a
  have hq := tw_lt N b
  rw [B_pow] at hp hq
  obtain ⟨s1, s2⟩ := bo_sum _ _ _ hp hq
  unfold bitN
  generalize bo 1 (tw N a) (tw N b) = u at *
  generalize bo 2 (tw N a) (tw N b) = v at *
  generalize bo 3 (tw N a) (tw N b) = w at *
  generalize ((B ^ N : Nat) : Int) = K at *
  generalize tw N a = p at *
  generalize tw N b = q at *
  clear hp hq ha hb
  generalize decide (a < 0) = A at *
  generalize decide (b < 0) = D at *
  cases A <;> cases D <;> simp only [sb, cond_true, cond_false, Bool.and_true, Bool.and_false, Bool.or_true, Bool.or_false, Bool.xor_true, Bool.xor_false, Bool.not_true, Bool.not_false, if_true, if_false, show (1 : Int) = 1 from rfl, show ¬ (2 : Int) = 1 by decide, show ¬ (3 : Int) = 1 by decide, show ¬ (3 : Int) = 2 by decide, Bool.true_and, Bool.false_and, Bool.true_or, Bool.false_or] at * <;> constructor <;> omega
theorem bitN_not (ha : inB N a) (hb : inB N b) : bitN 2 N (-a - 1) (-b - 1) = -(bitN 1 N a b) - 1 := by
  have hp := tw_lt N a
  have hq := tw_lt N b
  have hs := bo_neg (32 * N) (tw N a) (tw N b) (by rw [← B_pow]; exact hp) (by rw [← B_pow]; exact hq)
  rw [← B_pow] at hs
  unfold bitN
  rw [(tw_not ha).1, (tw_not hb).1]
  generalize bo 1 (tw N a) (tw N b) = u at *
  generalize bo 2 (B ^ N - 1 - tw N a) (B ^ N - 1 - tw N b) = v at *
  generalize B ^ N = K at *
  have e1 : decide (-a - 1 < 0) = !decide (a < 0) := by
    by_cases h : a < 0
    · rw [decide_eq_true h, decide_eq_false (by omega)]; rfl
    · rw [decide_eq_false h, decide_eq_true (by omega)]; rfl
  have e2 : decide (-b - 1 < 0) = !decide (b < 0) := by
    by_cases h : b < 0
    · rw [decide_eq_true h, decide_eq_false (by omega)]; rfl
    · rw [decide_eq_false h, decide_eq_true (by omega)]; rfl
  rw [e1, e2]
  cases decide (a < 0) <;> cases decide (b < 0) <;> simp only [sb, cond_true, cond_false, Bool.and_true, Bool.and_false, Bool.or_true, Bool.or_false, Bool.not_true, Bool.not_false, if_true, show ¬ (2 : Int) = 1 by decide, if_false] <;> omega
def btZ (a : Int) (i : Nat) : Int := a / P2 i % 2
theorem btZ_tw {i : Nat} (hi : i < 32 * N) : btZ a i = ((tw N a / 2 ^ i % 2 : Nat) : Int) := by
  have h := tw_cast N a
  have hd := Int.mul_ediv_add_emod a ((B ^ N : Nat) : Int)
  obtain ⟨k, hk⟩ : ∃ k, 32 * N = i + 1 + k := ⟨32 * N - i - 1, by omega⟩
  have hK : ((B ^ N : Nat) : Int) = P2 i * (2 * P2 k) := by
    unfold P2
    rw [B_pow, hk, Nat.pow_add, Nat.pow_succ, Int.natCast_mul, Int.natCast_mul, Int.mul_assoc]; rfl
  have hp := P2_pos i
  rw [← h, hK, Int.mul_assoc] at hd
  unfold btZ
  conv => lhs; rw [← hd]
  rw [Int.add_comm, Int.add_mul_ediv_left _ _ (by omega), Int.mul_assoc, Int.add_mul_emod_self_left]
  unfold P2
  rw [← Int.natCast_ediv]
  omega
theorem btZ_bit {op : Int} {i : Nat} (hi : i < 32 * N) : btZ (bitN op N a b) i = ((bo op (tw N a / 2 ^ i % 2) (tw N b / 2 ^ i % 2) : Nat) : Int) := by
  rw [btZ_tw hi, bitN_tw, bo_div]
  have := bo_mod op (tw N a / 2 ^ i) (tw N b / 2 ^ i) 1
  rw [show (2 : Nat) ^ 1 = 2 from rfl] at this
  rw [this]
theorem btZ_not (i : Nat) : btZ (-a - 1) i = 1 - btZ a i := by
  have hp := P2_pos i
  have hd := Int.mul_ediv_add_emod a (P2 i)
  have h1 := Int.emod_nonneg a (show P2 i ≠ 0 by omega)
  have h2 := Int.emod_lt_of_pos a hp
  have e : -a - 1 = (P2 i - 1 - a % P2 i) + P2 i * (-1 - a / P2 i) := by rw [Int.mul_sub, Int.mul_neg, Int.mul_one]; omega
  unfold btZ
  conv => lhs; rw [e]
  rw [Int.add_mul_ediv_left _ _ (by omega), Int.ediv_eq_zero_of_lt (by omega) (by omega), Int.zero_add]
  omega
theorem btZ_small (i : Nat) : 0 ≤ btZ a i ∧ btZ a i < 2 := by unfold btZ; omega
end
theorem twos (a b : Int) (n : Nat) (hN : max (lnZ' a) (lnZ' b) ≤ n) : bitZ 1 a b + bitZ 2 a b = a + b ∧ bitZ 3 a b = bitZ 2 a b - bitZ 1 a b ∧ bitZ 2 (-a - 1) (-b - 1) = -(bitZ 1 a b) - 1 ∧
    ∀ i, i < 32 * (n + 2) → btZ (bitZ 1 a b) i = min (btZ a i) (btZ b i) ∧ btZ (bitZ 2 a b) i = max (btZ a i) (btZ b i) ∧ btZ (bitZ 3 a b) i = (btZ a i + btZ b i).tmod 2 := by
  have ha : inB (n + 2) a := (inB.of (Nat.le_refl _)).mono (show (lim a.natAbs).length ≤ n + 2 by unfold lnZ' at hN; omega)
  have hb : inB (n + 2) b := (inB.of (Nat.le_refl _)).mono (show (lim b.natAbs).length ≤ n + 2 by unfold lnZ' at hN; omega)
  have e : ∀ op, bitZ op a b = bitN op (n + 2) a b := fun op => (bitZ_eq (by omega)).symm
  have l1 : ∀ x : Int, lnZ' (-x - 1) ≤ lnZ' x + 1 := fun x => by
    unfold lnZ'
    have h1 := ln_mono (show (-x - 1).natAbs ≤ x.natAbs + 1 by omega)
    have h2 := ln_add x.natAbs 1
    rw [lim_one] at h2
    have h3 : [1].length = 1 := rfl
    by_cases h : x.natAbs = 0
    · rw [h] at h1; rw [show (0 : Nat) + 1 = 1 from rfl, lim_one] at h1; omega
    · have := ln_pos.2 h; omega
  have e2 : bitZ 2 (-a - 1) (-b - 1) = bitN 2 (n + 2) (-a - 1) (-b - 1) := (bitZ_eq (by have := l1 a; have := l1 b; omega)).symm
  obtain ⟨s1, s2⟩ := bitN_sum ha hb
  refine ⟨by rw [e 1, e 2]; exact s1, by rw [e 1, e 2, e 3]; exact s2, by rw [e2, e 1]; exact bitN_not ha hb, fun i hi => ?_⟩
  rw [e 1, e 2, e 3, btZ_bit hi, btZ_bit hi, btZ_bit hi, btZ_tw (a := a) hi, btZ_tw (a := b) hi]
  obtain ⟨q1, q2, q3⟩ := bo_small (tw (n + 2) a / 2 ^ i % 2) (tw (n + 2) b / 2 ^ i % 2) (mod2 _) (mod2 _)
  rw [q1, q2, q3]
  refine ⟨by omega, by omega, ?_⟩
  rw [← Int.natCast_add]
  rfl
end Go.V
set_option maxHeartbeats 8000000
set_option maxRecDepth 100000
set_option synthInstance.maxSize 100000
set_option synthInstance.maxHeartbeats 2000000
namespace Go.V
open Go.RowKit Go.Proofs
theorem lnZ_bit {op a b : Int} {n : Nat} (k : Nat) (ha : lnZ a ≤ n) (hb : lnZ b ≤ n) (h : n + 1 ≤ k := by decide) : lnZ (bitZ op a b) ≤ k := by
  have h1 := bitN_in (op := op) (n := n) (a := a) (b := b)
  rw [bitZ_eq (show max (lnZ' a) (lnZ' b) ≤ n by unfold lnZ at ha hb; unfold lnZ'; omega)] at h1
  refine Nat.le_trans (ln_le ?_) h
  have h2 : B ^ (n + 1) = B ^ n * 4294967296 := Nat.pow_succ ..
  have h3 := Bn_pos n
  unfold inB at h1
  omega
theorem lnZ_not {a : Int} {n : Nat} (k : Nat) (ha : lnZ a ≤ n) (h : n + 1 ≤ k := by decide) (h0 : 1 ≤ n := by decide) : lnZ (-a - 1) ≤ k :=
  lnZ_sub k (lnZ_neg ha) lnZ_1 h (by omega)
theorem w_Bits_ok {op a b : Int} (h1 : 1 ≤ op) (h3 : op ≤ 3) (fa : fitZ a) (fb : fitZ b) (hf : fitZ (bitZ op a b)) : PC C Ze2 [intD a, intD b, .int .i64 op] (fun o => o = .ret (.tup [intD (bitZ op a b), .int .i64 0])) :=
  (Zms (decide (a < 0), lim a.natAbs) (decide (b < 0), lim b.natAbs) (U32_lim _) (U32_lim _) op).mono fun o ho => by
    have hO : bitO op a b = .inl (bitZ op a b) := by unfold bitO; rw [if_pos ⟨h1, h3⟩, fitO_t hf]
    rw [ho, valI_int, valI_int, hO, okI_of2 fa fb]
    rfl
theorem w_Not_ok {a : Int} (fa : fitZ a) (hf : fitZ (-a - 1)) : PC C Zgk [intD a] (fun o => o = .ret (.tup [intD (-a - 1), .int .i64 0])) :=
  (ZmU (decide (a < 0), lim a.natAbs) (U32_lim _)).mono fun o ho => by
    rw [ho, valI_int, fitO_t hf]
    simp only [List.all_cons, List.all_nil, Bool.and_true, okI_of fa]
    rfl
theorem ZkZ (a b : Int) (la : lnZ a ≤ 100) (lb : lnZ b ≤ 100) : PC C Zks [intD a, intD b] (fun o => o = .ret (.tup [intD (bitZ 1 a b), intD (bitZ 2 a b), intD (bitZ 3 a b)])) := by
  have fa : fitZ a := lnZ_fit la
  have fb : fitZ b := lnZ_fit lb
  have hf : ∀ op, fitZ (bitZ op a b) := fun op => lnZ_fit (lnZ_bit 101 la lb)
  refine PC.run Ze4 Zje rfl Zjf rfl (rs := [.cell 4 25, .cell 5 25, .cell 6 25]) (by rw [Zjg]) (by simp only [List.length_cons, List.length_nil, Nat.reduceAdd, Nat.reduceSub, List.replicate_succ, List.replicate_zero, List.cons_append, List.nil_append]; exact rfl) ?_
  refine ARun.seq (ARun.region ?_)
  refine y_op rfl (q_boxF rfl rfl rfl rfl) ?_
  refine y_op rfl (q_boxF rfl rfl rfl rfl) ?_
  refine y_new rfl (Zag rfl rfl rfl rfl) ?_
  refine y_new rfl (Zag rfl rfl rfl rfl) ?_
  refine y_new rfl (Zag rfl rfl rfl rfl) ?_
  refine AOps.nil (ARun.seq (ARun.region ?_))
  refine y_op rfl (Zad rfl rfl rfl rfl rfl) ?_
  refine y_op rfl (Zad rfl rfl rfl rfl rfl) ?_
  refine y_op rfl (q_call rfl rfl (w_Bits_ok (op := 1) (by decide) (by decide) fa fb (hf 1))) ?_
  refine y_op rfl (q_move rfl) ?_
  refine y_op rfl (Zab rfl rfl) ?_
  refine y_op rfl (Zab rfl rfl) ?_
  refine Zb3 rfl rfl rfl rfl rfl rfl rfl rfl rfl rfl rfl ?_
  refine y_op rfl (Zaa rfl) ?_
  refine AOps.nil (ARun.seq (ARun.region ?_))
  refine y_op rfl (Zad rfl rfl rfl rfl rfl) ?_
  refine y_op rfl (Zad rfl rfl rfl rfl rfl) ?_
  refine y_op rfl (q_call rfl rfl (w_Bits_ok (op := 2) (by decide) (by decide) fa fb (hf 2))) ?_
  refine y_op rfl (q_move rfl) ?_
  refine y_op rfl (Zab rfl rfl) ?_
  refine y_op rfl (Zab rfl rfl) ?_
  refine Zb3 rfl rfl rfl rfl rfl rfl rfl rfl rfl rfl rfl ?_
  refine y_op rfl (Zaa rfl) ?_
  refine AOps.nil (ARun.seq (ARun.region ?_))
  refine y_op rfl (Zad rfl rfl rfl rfl rfl) ?_
  refine y_op rfl (Zad rfl rfl rfl rfl rfl) ?_
  refine y_op rfl (q_call rfl rfl (w_Bits_ok (op := 3) (by decide) (by decide) fa fb (hf 3))) ?_
  refine y_op rfl (q_move rfl) ?_
  refine y_op rfl (Zab rfl rfl) ?_
  refine y_op rfl (Zab rfl rfl) ?_
  refine Zb3 rfl rfl rfl rfl rfl rfl rfl rfl rfl rfl rfl ?_
  refine y_op rfl (Zaa rfl) ?_
  refine AOps.nil (ARun.seq ?_)
  refine ARun.drawnG (n := 5) (fun S : Nat → Bool => [bif S 3 then cellZ (bitZ 1 a b) else cell0, bif S 4 then cellZ (bitZ 2 a b) else cell0, cell0]) [] (fun _ => False) (sk := []) mixC rfl rfl (by kernel_rfl) rfl (by kernel_rfl) rfl (fun _ _ _ h => h.elim) ?_
  refine DChG.opC rfl (fun S hn hd hc => OpQ.pre (H1 := [bif false then cellZ (bitZ 1 a b) else cell0, bif false then cellZ (bitZ 2 a b) else cell0, cell0]) (by simp only [(clF hc hn (by kernel_rfl) : S 3 = false), (clF hc hn (by kernel_rfl) : S 4 = false)]) (Zad rfl rfl rfl rfl rfl)) (fun _ => rfl) rfl rfl ?_
  refine DChG.opC rfl (fun S hn hd hc => OpQ.pre (H1 := [bif S 3 then cellZ (bitZ 1 a b) else cell0, bif false then cellZ (bitZ 2 a b) else cell0, cell0]) (by simp only [(clF hc hn (by kernel_rfl) : S 4 = false)]) (Zad rfl rfl rfl rfl rfl)) (fun _ => rfl) rfl rfl ?_
  refine DChG.op rfl (fun _ => Zad rfl rfl rfl rfl rfl) (fun _ => rfl) rfl rfl ?_
  refine DChG.stC rfl (fun S hn hd hc => OpN.both (H1 := [bif false then cellZ (bitZ 1 a b) else cell0, bif false then cellZ (bitZ 2 a b) else cell0, cell0]) (H3 := [bif true then cellZ (bitZ 1 a b) else cell0, bif false then cellZ (bitZ 2 a b) else cell0, cell0]) (by simp only [hn, (clF hc hn (by kernel_rfl) : S 4 = false)]) (by show [bif true then cellZ (bitZ 1 a b) else cell0, bif S 4 then cellZ (bitZ 2 a b) else cell0, cell0] = _; simp only [(clF hc hn (by kernel_rfl) : S 4 = false)]) (Zac rfl rfl rfl rfl rfl rfl rfl rfl (Nat.le_of_ble_eq_true rfl) rfl)) rfl rfl ?_
  refine DChG.stC rfl (fun S hn hd hc => OpN.both (H1 := [bif true then cellZ (bitZ 1 a b) else cell0, bif false then cellZ (bitZ 2 a b) else cell0, cell0]) (H3 := [bif true then cellZ (bitZ 1 a b) else cell0, bif true then cellZ (bitZ 2 a b) else cell0, cell0]) (by simp only [hn, (hd 3 (by kernel_rfl) : S 3 = true)]) (by show [bif S 3 then cellZ (bitZ 1 a b) else cell0, bif true then cellZ (bitZ 2 a b) else cell0, cell0] = _; simp only [(hd 3 (by kernel_rfl) : S 3 = true)]) (Zac rfl rfl rfl rfl rfl rfl rfl rfl (Nat.le_of_ble_eq_true rfl) rfl)) rfl rfl ?_
  refine .nil (fun hG => AOps.fin (n := 3) (as' := []) (H' := [cellZ (bitZ 1 a b), cellZ (bitZ 2 a b), cell0]) rfl rfl rfl ?_)
  refine y_new rfl (Zac rfl rfl rfl rfl rfl rfl rfl rfl (Nat.le_of_ble_eq_true rfl) rfl) ?_
  refine AOps.nil ?_
  refine ARun.ret ?_
  refine ⟨_, _, _, ResR.cellA rfl rfl rfl rfl rfl rfl (ResR.cellA rfl rfl rfl rfl rfl rfl (ResR.cellA rfl rfl rfl rfl rfl rfl .nil)), .cons (.same _) (.cons (.same _) (.cons (.same _) .nil)), rfl, ?_⟩
  rfl
theorem w_Shr_ok {a : Int} {n : Nat} (fa : fitZ a) (hn : n ≤ 33792) : PC C ZdP [intD a, .int .i64 (-(n : Int))] (fun o => o = .ret (.tup [intD (a / P2 n), .int .i64 0])) :=
  (ZlK (decide (a < 0), lim a.natAbs) (U32_lim _) (-(n : Int)) (by omega) (by omega)).mono fun o ho => by
    have hO : shiftO a (-(n : Int)) = .inl (a / P2 n) := by
      unfold shiftO
      by_cases h : n = 0
      · subst h
        have e : a / P2 0 = a := Int.ediv_one a
        have e2 : a * P2 (-((0 : Nat) : Int)).toNat = a := Int.mul_one a
        rw [if_pos (by decide), e, e2]
        by_cases h0 : a = 0
        · rw [if_pos h0, h0]
        · rw [if_neg h0, if_pos (by decide), fitO_t fa]
      · rw [if_neg (by omega), show min (-(-(n : Int))).toNat 33792 = n by omega]
    rw [ho, valI_int, hO]
    simp only [List.all_cons, List.all_nil, Bool.and_true, okI_of fa]
    rfl
theorem fit_shr {a : Int} (n : Nat) (fa : fitZ a) : fitZ (a / P2 n) := by
  have h1 := Int.mul_ediv_add_emod a (P2 n)
  have hp := P2_pos n
  refine fit_mono ?_ fa
  by_cases h : 0 ≤ a
  · have h2 := Int.ediv_nonneg h (show (0 : Int) ≤ P2 n by omega)
    have h3 := Int.ediv_le_self (P2 n) h
    omega
  · have h2 : a ≤ a / P2 n := by
      rw [Int.le_ediv_iff_mul_le hp]
      have h4 := Int.mul_le_mul_of_nonpos_left (show a ≤ 0 by omega) (show (1 : Int) ≤ P2 n by omega)
      rw [Int.mul_one] at h4
      exact h4
    have h3 : a / P2 n < 0 := Int.ediv_neg_of_neg_of_pos (by omega) hp
    omega
theorem fit_small2 : fitZ 2 := by
  unfold fitZ
  rw [show (2 : Int).natAbs = 2 from rfl, lim_pos (by decide), show 2 / B = 0 from rfl, lim_zero]
  decide
theorem Zdf (a : Int) (fa : fitZ a) (n : Nat) (hn : n ≤ 2000) : PC C Zkt [intD a, .int .i64 (n : Int)] (fun o => o = .ret (.int .i64 (btZ a n))) := by
  obtain ⟨q, r, dv, hd⟩ := w_Div_ok (a := a / P2 n) (b := 2) (k := 2) (fit_shr n fa) (fit_small2) (by decide) (by decide) (by decide)
  have hr : r = btZ a n := by
    have h1 := dv.e
    have h2 := dv.lt
    have h3 : 0 ≤ r := by
      by_cases h : r = 0
      · omega
      · have h4 := dv.f2 rfl h
        rw [decide_eq_false (show ¬ (2 : Int) < 0 by decide)] at h4
        have := of_decide_eq_false h4
        omega
    unfold btZ
    omega
  subst hr
  have hb := btZ_small (a := a) n
  have hT : PC C ZdO [intD (btZ a n)] (fun o => o = .ret (.tup [.int .i64 (btZ a n), .int .i64 0])) :=
    (ZlH (decide (btZ a n < 0), lim (btZ a n).natAbs) (U32_lim _)).mono fun o ho => by
      have : toI (decide (btZ a n < 0), lim (btZ a n).natAbs) = (btZ a n, 0) := by
        unfold toI
        rw [okI_of (fit_mono (y := 2) (by omega) (fit_small2)), valI_int, cond_true, if_pos (by omega)]
      rw [ho, this]
  refine PC.run Ze5 Zjh rfl Zji rfl (rs := [.tmp 4]) (by rw [Zjj]) (by simp only [List.length_cons, List.length_nil, Nat.reduceAdd, Nat.reduceSub, List.replicate_succ, List.replicate_zero, List.cons_append, List.nil_append]; exact rfl) ?_
  refine ARun.seq (ARun.region ?_)
  refine y_op rfl (q_boxF rfl rfl rfl rfl) ?_
  refine y_op rfl (Zaa rfl) ?_
  refine AOps.nil (ARun.seq (ARun.region ?_))
  refine y_op rfl (Zad rfl rfl rfl rfl rfl) ?_
  refine y_op rfl (q_move rfl) ?_
  refine y_op rfl (q_neg rfl (show _ = -(n : Int) by rw [IntWalk.i64_in _ (by omega)]; omega)) ?_
  refine y_op rfl (q_call rfl rfl (w_Shr_ok fa (by omega))) ?_
  refine y_op rfl (q_move rfl) ?_
  refine y_op rfl (Zab rfl rfl) ?_
  refine y_op rfl (Zab rfl rfl) ?_
  refine Zb3 rfl rfl rfl rfl rfl rfl rfl rfl rfl rfl rfl ?_
  refine y_op rfl (Zaa rfl) ?_
  refine AOps.nil (ARun.seq ?_)
  refine ARun.drawnF (n := 11) (fun S : Nat → Bool => _) [(7, 7, 25, [.bool false, .nilsl], some (9, [.bool (decide (q < 0)), numD q.natAbs])), (8, 8, 25, [.bool false, .nilsl], some (10, [.bool (decide (btZ a n < 0)), numD (btZ a n).natAbs]))] (fun _ => False) (sk := [(7, some 9), (8, some 10)]) mixC rfl rfl (by kernel_rfl) rfl (by kernel_rfl) rfl rfl (fun _ _ _ h => h.elim) ?_
  refine DChG.op rfl (fun _ => Zad rfl rfl rfl rfl rfl) (fun _ => rfl) rfl rfl ?_
  refine DChG.op rfl (fun _ => q_call rfl rfl (Zal 2 (by decide) (by decide))) (fun _ => rfl) rfl rfl ?_
  refine DChG.op rfl (fun _ => q_call rfl rfl (hd)) (fun _ => rfl) rfl rfl ?_
  refine DChG.op rfl (fun _ => q_move rfl) (fun _ => rfl) rfl rfl ?_
  refine DChG.op rfl (fun _ => Zab rfl rfl) (fun _ => rfl) rfl rfl ?_
  refine DChG.op rfl (fun _ => Zab rfl rfl) (fun _ => rfl) rfl rfl ?_
  refine DChG.op rfl (fun _ => Zab rfl rfl) (fun _ => rfl) rfl rfl ?_
  refine .al rfl rfl rfl rfl (fun _ => rfl) rfl rfl rfl ?_
  refine .al rfl rfl rfl rfl (fun _ => rfl) rfl rfl rfl ?_
  refine .sp (j := 7) rfl rfl rfl rfl rfl rfl rfl (fun _ => rfl) rfl rfl rfl (by kernel_rfl) ?_
  refine .sp (j := 8) rfl rfl rfl rfl rfl rfl rfl (fun _ => rfl) rfl rfl rfl (by kernel_rfl) ?_
  refine .nil (fun hG => AOps.fixed (as' := [(7, 7, 25, [.bool (decide (q < 0)), numD q.natAbs]), (8, 8, 25, [.bool (decide (btZ a n < 0)), numD (btZ a n).natAbs])]) rfl ?_)
  refine y_op rfl (Zaa rfl) ?_
  refine AOps.nil (ARun.seq (ARun.region ?_))
  refine y_op rfl (Zad rfl rfl rfl rfl rfl) ?_
  refine y_op rfl (q_call rfl rfl (hT)) ?_
  refine y_op rfl (q_move rfl) ?_
  refine y_op rfl (Zab rfl rfl) ?_
  refine y_op rfl (Zab rfl rfl) ?_
  refine y_op rfl (Zaa rfl) ?_
  refine y_op rfl (Zaa rfl) ?_
  refine AOps.nil (ARun.seq (ARun.region ?_))
  refine y_op rfl (q_move rfl) ?_
  refine y_op rfl (Zaa rfl) ?_
  refine AOps.nil ?_
  refine ARun.ret ?_
  refine ⟨_, _, _, .tmp rfl .nil, .cons (.same _) .nil, rfl, ?_⟩
  rfl
theorem Zmt (d1 d2 : Bool × List Nat) (h1 : U32 d1.2) (h2 : U32 d2.2) (at' : Int) : PC C Zem [intA d1.1 d1.2, intA d2.1 d2.2, .int .i64 at'] (fun o => o = .ret (.bool true)) := by
  refine PC.run ZbV ZdJ rfl ZdK rfl (rs := [.tmp 6]) (by rw [ZdL]) (by simp only [List.length_cons, List.length_nil, Nat.reduceAdd, Nat.reduceSub, List.replicate_succ, List.replicate_zero, List.cons_append, List.nil_append]; exact rfl) ?_
  refine ARun.seq (ARun.region ?_)
  refine y_op rfl (q_boxF rfl rfl rfl rfl) ?_
  refine y_op rfl (q_boxF rfl rfl rfl rfl) ?_
  refine y_op rfl (Zaa rfl) ?_
  refine AOps.nil (ARun.seq (ARun.region ?_))
  refine y_op rfl (q_call rfl rfl (ZlG)) ?_
  refine y_op rfl (Zaa rfl) ?_
  refine AOps.nil (ARun.seq (ARun.seq (ARun.region ?_)))
  refine y_op rfl (Zad rfl rfl rfl rfl rfl) ?_
  refine y_op rfl (Zad rfl rfl rfl rfl rfl) ?_
  refine y_op rfl (Zan rfl rfl rfl rfl rfl rfl rfl rfl rfl rfl rfl (by decide) (by decide) rfl) ?_
  refine y_op rfl (q_call rfl rfl (Zmp [d1, d2] 2 rfl 40)) ?_
  refine y_op rfl (q_not rfl) ?_
  refine AOps.nil ?_
  refine ARun.cond rfl (fun g => ?_) (fun g => ?_)
  · skip
    refine ARun.seq (ARun.region ?_)
    refine y_op rfl (q_move rfl) ?_
    refine y_op rfl (Zaa rfl) ?_
    refine AOps.nil ?_
    refine ARun.ret ?_
    refine ⟨_, _, _, .tmp rfl .nil, .cons (.same _) .nil, rfl, ?_⟩
    rfl
  · skip
    have g := not_false_true g
    simp only [List.all_cons, List.all_nil, Bool.and_true, Bool.and_eq_true, decide_eq_true_eq] at g
    obtain ⟨⟨g1, k1⟩, g2, k2⟩ := g
    obtain ⟨a, rfl, la⟩ := fine_int h1 g1 k1
    obtain ⟨b, rfl, lb⟩ := fine_int h2 g2 k2
    have fa : fitZ a := lnZ_fit la
    have fb : fitZ b := lnZ_fit lb
    have lx : lnZ (bitZ 1 a b) ≤ 41 := lnZ_bit 41 la lb
    have ly : lnZ (bitZ 2 a b) ≤ 41 := lnZ_bit 41 la lb
    have lz : lnZ (bitZ 3 a b) ≤ 41 := lnZ_bit 41 la lb
    have lm : lnZ (-a - 1) ≤ 41 := lnZ_not 41 la
    have ln : lnZ (-b - 1) ≤ 41 := lnZ_not 41 lb
    have lo : lnZ (bitZ 2 (-a - 1) (-b - 1)) ≤ 42 := lnZ_bit 42 lm ln
    have lt : lnZ (-(bitZ 1 a b) - 1) ≤ 42 := lnZ_not 42 lx
    obtain ⟨e1, e2, e3, e4⟩ := twos a b 62 (by unfold lnZ at la lb; unfold lnZ'; omega)
    refine ARun.skip (ARun.seq (ARun.region ?_))
    refine y_op rfl (Zad rfl rfl rfl rfl rfl) ?_
    refine y_op rfl (Zad rfl rfl rfl rfl rfl) ?_
    refine y_op rfl (q_call rfl rfl (ZkZ a b (Nat.le_trans la (by decide)) (Nat.le_trans lb (by decide)))) ?_
    refine y_op rfl (q_move rfl) ?_
    refine y_op rfl (Zab rfl rfl) ?_
    refine y_op rfl (Zab rfl rfl) ?_
    refine y_op rfl (Zab rfl rfl) ?_
    refine Zke (alW rfl rfl rfl rfl rfl rfl rfl rfl rfl rfl rfl) (alW rfl rfl rfl rfl rfl rfl rfl rfl rfl rfl rfl) (alW rfl rfl rfl rfl rfl rfl rfl rfl rfl rfl rfl) rfl rfl rfl ?_
    refine AOps.nil (ARun.seq (ARun.region ?_))
    refine y_op rfl (Zad rfl rfl rfl rfl rfl) ?_
    refine y_op rfl (q_call rfl rfl (w_Not_ok fa (lnZ_fit lm))) ?_
    refine y_op rfl (q_move rfl) ?_
    refine y_op rfl (Zab rfl rfl) ?_
    refine y_op rfl (Zab rfl rfl) ?_
    refine Zb3 rfl rfl rfl rfl rfl rfl rfl rfl rfl rfl rfl ?_
    refine y_op rfl (Zaa rfl) ?_
    refine AOps.nil (ARun.seq (ARun.region ?_))
    refine y_op rfl (Zad rfl rfl rfl rfl rfl) ?_
    refine y_op rfl (q_call rfl rfl (w_Not_ok fb (lnZ_fit ln))) ?_
    refine y_op rfl (q_move rfl) ?_
    refine y_op rfl (Zab rfl rfl) ?_
    refine y_op rfl (Zab rfl rfl) ?_
    refine Zb3 rfl rfl rfl rfl rfl rfl rfl rfl rfl rfl rfl ?_
    refine y_op rfl (Zaa rfl) ?_
    refine AOps.nil (ARun.seq (ARun.region ?_))
    refine y_op rfl (Zad rfl rfl rfl rfl rfl) ?_
    refine y_op rfl (Zad rfl rfl rfl rfl rfl) ?_
    refine y_op rfl (q_call rfl rfl (ZkZ (-a - 1) (-b - 1) (Nat.le_trans lm (by decide)) (Nat.le_trans ln (by decide)))) ?_
    refine y_op rfl (q_move rfl) ?_
    refine y_op rfl (Zab rfl rfl) ?_
    refine y_op rfl (Zab rfl rfl) ?_
    refine y_op rfl (Zab rfl rfl) ?_
    refine Zke (alW rfl rfl rfl rfl rfl rfl rfl rfl rfl rfl rfl) (alW rfl rfl rfl rfl rfl rfl rfl rfl rfl rfl rfl) (alW rfl rfl rfl rfl rfl rfl rfl rfl rfl rfl rfl) rfl rfl rfl ?_
    refine AOps.nil (ARun.seq (ARun.region ?_))
    refine y_op rfl (Zad rfl rfl rfl rfl rfl) ?_
    refine y_op rfl (q_call rfl rfl (w_Not_ok (lnZ_fit lx) (lnZ_fit lt))) ?_
    refine y_op rfl (q_move rfl) ?_
    refine y_op rfl (Zab rfl rfl) ?_
    refine y_op rfl (Zab rfl rfl) ?_
    refine Zb3 rfl rfl rfl rfl rfl rfl rfl rfl rfl rfl rfl ?_
    refine y_op rfl (Zaa rfl) ?_
    refine AOps.nil (ARun.seq (ARun.seq ?_))
    refine ARun.drawnP 42 (fun _ => False) mixC rfl rfl (by kernel_rfl) (fun _ _ h => h.elim) ?_
    refine .op rfl (q_move rfl) ?_
    refine .op rfl (ZiP rfl rfl rfl) ?_
    refine .op rfl (q_move rfl) ?_
    refine .op rfl (q_move rfl) ?_
    refine .op rfl (ZiP rfl rfl rfl) ?_
    refine .op rfl (q_pick rfl rfl rfl rfl) ?_
    refine .op rfl (q_move rfl) ?_
    refine .op rfl (q_move rfl) ?_
    refine .op rfl (ZiP rfl rfl rfl) ?_
    refine .op rfl (q_pick rfl rfl rfl rfl) ?_
    refine .op rfl (q_move rfl) ?_
    refine .op rfl (Zad rfl rfl rfl rfl rfl) ?_
    refine .op rfl (Zad rfl rfl rfl rfl rfl) ?_
    refine .op rfl (q_call rfl rfl (ZiQ (bitZ 1 a b) (bitZ 2 a b) (lnZ_fit lx) (lnZ_fit ly) (lnZ_fit (lnZ_add 42 lx ly)))) ?_
    refine .op rfl (Zad rfl rfl rfl rfl rfl) ?_
    refine .op rfl (Zad rfl rfl rfl rfl rfl) ?_
    refine .op rfl (q_call rfl rfl (ZiQ a b fa fb (lnZ_fit (lnZ_add 41 la lb)))) ?_
    refine .op rfl (q_call rfl rfl (Zch (bitZ 1 a b + bitZ 2 a b) (a + b) (lnZ_fit (lnZ_add 42 lx ly)) e1)) ?_
    refine .op rfl (q_not rfl) ?_
    refine .op rfl (q_pick rfl rfl rfl rfl) ?_
    refine .op rfl (q_move rfl) ?_
    refine .op rfl (Zad rfl rfl rfl rfl rfl) ?_
    refine .op rfl (Zad rfl rfl rfl rfl rfl) ?_
    refine .op rfl (Zad rfl rfl rfl rfl rfl) ?_
    refine .op rfl (q_call rfl rfl (ZmR (bitZ 2 a b) (bitZ 1 a b) (lnZ_fit ly) (lnZ_fit lx) (lnZ_fit (lnZ_sub 42 ly lx)))) ?_
    refine .op rfl (q_call rfl rfl (Zch (bitZ 3 a b) (bitZ 2 a b - bitZ 1 a b) (lnZ_fit lz) e2)) ?_
    refine .op rfl (q_not rfl) ?_
    refine .op rfl (q_pick rfl rfl rfl rfl) ?_
    refine .op rfl (q_move rfl) ?_
    refine .op rfl (Zad rfl rfl rfl rfl rfl) ?_
    refine .op rfl (Zad rfl rfl rfl rfl rfl) ?_
    refine .op rfl (q_call rfl rfl (Zch (bitZ 2 (-a - 1) (-b - 1)) (-(bitZ 1 a b) - 1) (lnZ_fit lo) e3)) ?_
    refine .op rfl (q_not rfl) ?_
    refine .op rfl (q_pick rfl rfl rfl rfl) ?_
    refine .op rfl (q_move rfl) ?_
    refine .op rfl (Zad rfl rfl rfl rfl rfl) ?_
    refine .op rfl (Zad rfl rfl rfl rfl rfl) ?_
    refine .op rfl (q_call rfl rfl (ZiQ a (-a - 1) fa (lnZ_fit lm) (lnZ_fit (lnZ_add 42 la lm)))) ?_
    refine .op rfl (q_call rfl rfl (Zal (-1) (by decide) (by decide))) ?_
    refine .op rfl (q_call rfl rfl (Zch (a + (-a - 1)) (-1) (lnZ_fit (lnZ_add 42 la lm)) (by omega))) ?_
    refine .op rfl (q_not rfl) ?_
    refine .op rfl (q_pick rfl rfl rfl rfl) ?_
    refine .nil (fun hG => ?_)
    refine AOps.nil ?_
    refine ARun.condF rfl ?_
    refine ARun.skip (ARun.seq (ARun.seq (ARun.region ?_)))
    refine y_op rfl (q_move rfl) ?_
    refine y_op rfl (q_int rfl rfl rfl) ?_
    refine y_op rfl (q_move rfl) ?_
    refine AOps.bool 102 rfl (fun b1 => ?_) (fun b1 => ?_)
    · skip
      refine y_skip rfl ?_
      refine y_skip rfl ?_
      refine y_op rfl (q_pick rfl rfl rfl rfl) ?_
      refine AOps.nil ?_
      refine ARun.condT rfl ?_
      refine ARun.seq (ARun.region ?_)
      refine y_op rfl (q_move rfl) ?_
      refine y_op rfl (Zaa rfl) ?_
      refine AOps.nil ?_
      refine ARun.ret ?_
      refine ⟨_, _, _, .tmp rfl .nil, .cons (.same _) .nil, rfl, ?_⟩
      rfl
    · skip
      have b1 := of_decide_eq_false b1
      refine y_op rfl (q_move rfl) ?_
      refine y_op rfl (q_int rfl rfl rfl) ?_
      refine y_op rfl (q_pick rfl rfl rfl rfl) ?_
      refine AOps.nil ?_
      refine ARun.ite rfl (fun b2 => ?_) (fun b2 => ?_)
      · skip
        refine ARun.seq (ARun.region ?_)
        refine y_op rfl (q_move rfl) ?_
        refine y_op rfl (Zaa rfl) ?_
        refine AOps.nil ?_
        refine ARun.ret ?_
        refine ⟨_, _, _, .tmp rfl .nil, .cons (.same _) .nil, rfl, ?_⟩
        rfl
      · skip
        obtain ⟨n, rfl⟩ : ∃ n : Nat, at' = (n : Int) := ⟨at'.toNat, by omega⟩
        have hn : n ≤ 2000 := by omega
        obtain ⟨q1, q2, q3⟩ := e4 n (by omega)
        have sa := btZ_small (a := a) n
        have sb' := btZ_small (a := b) n
        refine ARun.skip (ARun.seq (ARun.region ?_))
        refine y_op rfl (Zad rfl rfl rfl rfl rfl) ?_
        refine y_op rfl (q_move rfl) ?_
        refine y_op rfl (q_call rfl rfl (Zdf a fa n hn)) ?_
        refine y_op rfl (Zaa rfl) ?_
        refine AOps.nil (ARun.seq (ARun.region ?_))
        refine y_op rfl (Zad rfl rfl rfl rfl rfl) ?_
        refine y_op rfl (q_move rfl) ?_
        refine y_op rfl (q_call rfl rfl (Zdf b fb n hn)) ?_
        refine y_op rfl (Zaa rfl) ?_
        refine AOps.nil (ARun.seq (ARun.region ?_))
        refine y_op rfl (q_move rfl) ?_
        refine y_op rfl (q_move rfl) ?_
        refine y_op rfl (Zad rfl rfl rfl rfl rfl) ?_
        refine y_op rfl (q_move rfl) ?_
        refine y_op rfl (q_call rfl rfl (Zdf (bitZ 1 a b) (lnZ_fit lx) n hn)) ?_
        refine y_op rfl (q_move rfl) ?_
        refine y_op rfl (q_move rfl) ?_
        refine y_op rfl (q_min rfl rfl) ?_
        refine y_op rfl (Zgf rfl rfl q1) ?_
        refine y_op rfl (q_pick rfl rfl rfl rfl) ?_
        refine y_op rfl (q_move rfl) ?_
        refine y_op rfl (Zad rfl rfl rfl rfl rfl) ?_
        refine y_op rfl (q_move rfl) ?_
        refine y_op rfl (q_call rfl rfl (Zdf (bitZ 2 a b) (lnZ_fit ly) n hn)) ?_
        refine y_op rfl (q_move rfl) ?_
        refine y_op rfl (q_move rfl) ?_
        refine y_op rfl (q_max rfl rfl) ?_
        refine y_op rfl (Zgf rfl rfl q2) ?_
        refine y_op rfl (q_pick rfl rfl rfl rfl) ?_
        refine y_op rfl (q_move rfl) ?_
        refine y_op rfl (Zad rfl rfl rfl rfl rfl) ?_
        refine y_op rfl (q_move rfl) ?_
        refine y_op rfl (q_call rfl rfl (Zdf (bitZ 3 a b) (lnZ_fit lz) n hn)) ?_
        refine y_op rfl (q_move rfl) ?_
        refine y_op rfl (q_move rfl) ?_
        refine y_op rfl (q_add rfl rfl (IntWalk.i64_in _ (by omega))) ?_
        refine y_op rfl (q_rem rfl rfl (by decide) rfl) ?_
        refine y_op rfl (Zgf rfl rfl q3) ?_
        refine y_op rfl (q_pick rfl rfl rfl rfl) ?_
        refine y_op rfl (q_move rfl) ?_
        refine y_op rfl (Zad rfl rfl rfl rfl rfl) ?_
        refine y_op rfl (q_move rfl) ?_
        refine y_op rfl (q_call rfl rfl (Zdf (-a - 1) (lnZ_fit lm) n hn)) ?_
        refine y_op rfl (q_move rfl) ?_
        refine y_op rfl (q_sub rfl rfl (IntWalk.i64_in _ (by omega))) ?_
        refine y_op rfl (Zgf rfl rfl (btZ_not n)) ?_
        refine y_op rfl (q_pick rfl rfl rfl rfl) ?_
        refine y_op rfl (Zaa rfl) ?_
        refine AOps.nil ?_
        refine ARun.ret ?_
        refine ⟨_, _, _, .tmp rfl .nil, .cons (.same _) .nil, rfl, ?_⟩
        rfl
end Go.V
/- THE ROWS: what the arguments read as, and what is left behind a call. -/
set_option maxRecDepth 100000
namespace Go.V
open Go.RowKit Go.Proofs Go.ChangeShapes Go.WideShapes Go.ChangeAt Go.ChangeMaps
theorem laidOutZ : laidOutB Tryz.prog = true := by kernel_rfl
theorem ownZ : ownKnob Tryz.prog.godebug = none := by kernel_rfl
theorem cell_lt {w : World} {a : Addr} {v : Value} (h : w.cell? a = some v) : a.block < w.heap.size := by
  apply Classical.byContradiction
  intro hn
  have : w.heap[a.block]? = none := by rw [Array.getElem?_eq_none_iff]; omega
  simp [World.cell?, this] at h
theorem SR0 (W : World) : SR C (fun _ => False) W [] [] :=
  ⟨rfl, fun i o b h => by simp at h, fun i j oi oj b h => by simp at h, fun i o b h => by simp at h, fun b h => h.elim, fun g cs h => by cases h⟩
theorem forb0 : forb (fun _ => False) [] [] = fun _ => False := by
  funext b
  apply propext
  constructor
  · rintro (h | ⟨i, o, h, _⟩)
    · exact h
    · simp at h
  · exact fun h => h.elim
section
variable {H : Type} {enc : TypeId × Value → H} {W : World}
theorem vr_limbs {fuel : Nat} {cs : List Value} {x : DataW H × List MemPlace} (h : DataW.trod enc Tryz.prog W 0 (fun _ => true) true fuel 23 cs = some x) :
    ∃ (v : Value) (xs : List Nat), cs = [v] ∧ U32 xs ∧ VR W (fun _ => False) [] [] (sln .u32 xs) v := by
  rcases open_ints Tryz.underlying23 Tryz.underlying54 (by kernel_rfl) h with ⟨rfl, _⟩ | ⟨a, len, cap, zs, rfl, _, hl, hm, hz, _, hcell, hwf⟩
  · refine ⟨_, [], rfl, fun _ h => (by cases h), ?_⟩
    simp only [VR]
    exact ⟨none, 0, rfl, Nat.le_refl _, Nat.zero_le _, fun h => (h rfl).elim⟩
  · simp only [if_true] at hz
    have hb : ∀ n ∈ zs, 0 ≤ n ∧ n < 4294967296 := by
      intro n hn
      have := hwf n hn
      simp [Lit.wf, IntKind.min, IntKind.max, IntKind.signed, IntKind.bits] at this
      omega
    have hu : U32 ((zs.take len).map Int.toNat) := by
      intro y hy
      obtain ⟨n, hn, rfl⟩ := List.mem_map.1 hy
      have := hb n (List.mem_of_mem_take hn)
      show n.toNat < 4294967296
      omega
    have hlen : ((zs.take len).map Int.toNat).length = len := by rw [List.length_map, List.length_take]; omega
    refine ⟨_, (zs.take len).map Int.toNat, rfl, hu, ?_⟩
    have hget : ∀ j : Nat, j < len → nts .u32 ((zs.take len).map Int.toNat) = nts .u32 ((zs.take len).map Int.toNat) → ((nts .u32 ((zs.take len).map Int.toNat))[j]? = some (.int .u32 (zs.getD j 0))) := by
      intro j hj _
      have hjz : j < zs.length := by omega
      have hn := hb (zs[j]'hjz) (List.getElem_mem hjz)
      simp only [nts, List.map_map, List.getElem?_map, List.getElem?_take, if_pos hj, List.getElem?_eq_getElem hjz, Option.map_some, Function.comp, List.getD_eq_getElem?_getD, Option.getD_some]
      congr 2
      omega
    simp only [VR]
    refine ⟨some a, cap, by rw [hlen], by rw [hlen]; exact hl, hm, fun hne => ⟨a, rfl, ?_, id, VRL_mk fun j d hd => ?_⟩⟩
    · have h0 : 0 < zs.length := by
        rcases Nat.eq_zero_or_pos zs.length with h | h
        · have : zs = [] := List.eq_nil_of_length_eq_zero h
          subst this
          simp [nts] at hne
        · exact h
      exact cell_lt (hcell 0 h0)
    · have hj : j < len := by
        have := (List.getElem?_eq_some_iff.1 hd).1
        simp only [nts, List.length_map, List.length_take] at this
        omega
      rw [hget j hj rfl] at hd
      injection hd with hd
      subst hd
      exact ⟨_, by rw [Nat.zero_add]; exact hcell j (by omega), rfl, by simp only [VR]⟩
theorem vr_Int {base : Nat} {v : Value} {d : DataW H} {p : List MemPlace} (hv : Value.okWide Tryz.prog W .any base 25 v) (h : DataW.Trod enc Tryz.prog W 0 (fun _ => true) true 25 v d p) :
    ∃ e : Bool × List Nat, U32 e.2 ∧ VR W (fun _ => False) [] [] (.agg [.bool e.1, sln .u32 e.2]) v := by
  obtain ⟨cs, rfl, hsz⟩ := okWide_struct Tryz.underlying25 hv
  obtain ⟨fuel, hf⟩ := h
  obtain ⟨y0, y1, n, _, hl, h0, h1⟩ := trod_struct2 Tryz.underlying25 hf
  have c25 : Tryz.prog.cellsOf 25 = 2 := by kernel_rfl
  have c4 : Tryz.prog.cellsOf 4 = 1 := by kernel_rfl
  have c23 : Tryz.prog.cellsOf 23 = 1 := by kernel_rfl
  rw [c25] at hsz
  obtain ⟨l⟩ := cs
  match l, hsz with
  | [c0, c1], _ =>
    simp only [Value.cells] at h0 h1
    rw [c4] at h0
    rw [c23] at h1
    obtain ⟨b, e0, _⟩ := DataW.trod_bool Tryz.underlying4 h0
    obtain ⟨v1, xs, e1, hu, hx⟩ := vr_limbs h1
    simp at e0 e1
    subst e0; subst e1
    refine ⟨(b, xs), hu, ?_⟩
    simp only [VR, VRs]
    refine ⟨[.bool b, c1], rfl, .bool b, [c1], rfl, rfl, c1, [], rfl, ?_, rfl⟩
    simpa only [VR] using hx
theorem vr_int {base : Nat} {v : Value} {d : DataW H} {p : List MemPlace} (hv : Value.okWide Tryz.prog W .any base 3 v) (h : DataW.Trod enc Tryz.prog W 0 (fun _ => true) true 3 v d p) :
    ∃ n : Int, -9223372036854775808 ≤ n ∧ n ≤ 9223372036854775807 ∧ VR W (fun _ => False) [] [] (.int .i64 n) v := by
  obtain ⟨n, rfl, _, _, hw⟩ := open_int Tryz.underlying3 hv h
  simp [Lit.wf, IntKind.min, IntKind.max, IntKind.signed, IntKind.bits] at hw
  exact ⟨n, by omega, by omega, by simp only [VR]⟩
theorem trodAll_stays {W' : World} (hb : Below W.heap.size W W') {sp : Nat → Bool} : ∀ {ts : List TypeId} {vs : List Value} {ds : List (DataW H)} {p : List MemPlace}, (∀ t ∈ ts, Tryz.prog.readableRec t = true ∧ t < Tryz.prog.types.size) →
    DataW.TrodAll enc Tryz.prog W 0 (fun _ => true) true ts vs ds p → (∀ x ∈ p, x.block < W.heap.size ∧ sp x.block = true) → DataW.TrodAll enc Tryz.prog W' 0 sp true ts vs ds p
  | [], _, _, _, _, h, _ => by
    obtain ⟨rfl, rfl, rfl⟩ := trodAll_nil h
    simp [DataW.TrodAll]
  | t :: ts, _, _, _, ht, h, hp => by
    obtain ⟨v, vs, d, ds, a, b, rfl, rfl, rfl, h1, h2⟩ := trodAll_cons h
    obtain ⟨r1, r2⟩ := ht t (List.mem_cons_self ..)
    exact ⟨a, b, WideElems.Trod_stays laidOutZ r1 r2 h1 (fun x hx => hb.same (hp x (List.mem_append_left _ hx)).1) (fun x hx => (hp x (List.mem_append_left _ hx)).2),
      trodAll_stays hb (fun t ht' => ht t (List.mem_cons_of_mem _ ht')) h2 (fun x hx => hp x (List.mem_append_right _ hx)), rfl⟩
theorem law_post {fn : Func} {s : ChangeSpec} {W' : World} {args : Array Value} {ds : List (DataW H)} {before : List MemPlace} (hs : s.vars = []) (hW : DataW.Whole enc Tryz.prog fn.params.toList s.vars false W args.toList ds [] before) (hf : s.fn H ds = { results := [.lit (.bool true)], args := ds })
    (hr : fn.resultTypes = #[4]) (hts : ∀ t ∈ fn.params.toList, Tryz.prog.readableRec t = true ∧ t < Tryz.prog.types.size) (hb : Below W.heap.size W W') : s.post enc Tryz.prog fn false true false false W args (.bool true) W' := by
  have hW' := hW
  obtain ⟨p, q, hA, hV, rfl, _, _⟩ := hW
  rw [hs] at hV
  obtain ⟨_, rfl⟩ := trodVars_none hV
  have hlt : ∀ x ∈ p, x.block < W.heap.size := fun x hx => by simpa using hW'.lt x (List.mem_append_left _ hx)
  refine ⟨ds, [], p ++ [], [], p, [], hW', ?_, ?_, ?_, hb.frame _, fun h => by cases h⟩
  · rw [List.append_nil, hf, hr]
    exact trodAll_mk1 (shut_bool Tryz.underlying4 _)
  · rw [List.append_nil, hf]
    exact trodAll_stays hb hts hA fun x hx => ⟨hlt x hx, by simpa using hlt x hx⟩
  · rw [List.append_nil, hf, hs]
    rfl
end
theorem law_calls {f : FuncId} {ds : List D} {W : World} {vs : List Value} (hc : PC C f ds (fun o => o = .ret (.bool true))) (hv : VRs W (fun _ => False) [] [] ds vs) : Calls Tryz.prog f vs.toArray W fun e W' => e = .returned (.bool true) ∧ Below W.heap.size W W' := by
  have h := (hc []).2 (fun _ => False) W [] vs (SR0 W) (by rw [forb0]; exact hv)
  refine h.mono ?_
  rintro e W' ⟨o, H', μ', ⟨rfl, rfl⟩, _, ⟨v, he, hv'⟩, hevo⟩
  simp only [VR] at hv'
  subst hv'
  exact ⟨he, hevo.os, hevo.tape, hevo.output, hevo.size, fun k hk => hevo.chg k hk fun ⟨i, o, h, _⟩ => by simp at h⟩
end Go.V
/- The closed facts of a row, one by one: what holds of the program itself, and how they are joined; no condition. -/
set_option maxRecDepth 100000
namespace Go.V
open Go.Proofs
theorem and_t {a b : Bool} (h1 : a = true) (h2 : b = true) : (a && b) = true := by rw [h1, h2]; rfl
theorem joined_of {P : Program} {f : FuncId} {fn : Func} {s : ChangeSpec} {c : OpenClaim}
    (k1 : (c.wf (OpenSpec.ofChange s)) = true)
    (k2 : (laidOutB P) = true)
    (k3 : (mapsRowed P) = true)
    (k4 : (fn.params.all (P.readableRec ·)) = true)
    (k5 : (namedTie P c.named s.vars) = true)
    (k6 : (c.stops == []) = true)
    (k7 : (P.stops == []) = true)
    (k8 : (c.knobs == []) = true)
    (k9 : (P.stopKnobs == []) = true)
    (k10 : (c.inPlace == P.inPlace f) = true)
    (k11 : (c.unfollowed == P.unfollowed f) = true)
    (k12 : (c.recurses == P.recurses f) = true)
    (k13 : (c.named == P.varsNamed f) = true)
    (k14 : ((c.maps == (fn.params.toList ++ s.plain.varTypes P).any (P.mapsRec ·))) = true)
    (k15 : ((c.ifaces == (fn.params.toList ++ s.plain.varTypes P).any (P.ifacesRec ·))) = true)
    (k16 : (c.mapsOut == P.mapsAmong fn.resultTypes.toList) = true)
    (k17 : ((c.loops == (fn.params.toList ++ s.plain.varTypes P).any (P.loopsFrom ·))) = true)
    (k18 : ((c.wideKeys == (fn.params.toList ++ s.plain.varTypes P ++ fn.resultTypes.toList).any (P.wideKeysFrom ·))) = true)
    (k19 : (s.vars.all (P.varReadable ·)) = true)
    (k20 : (fn.resultTypes.all (fun t => P.readableRec t && decide (t < P.types.size))) = true)
    (k21 : ((c.ifacesOut == fn.resultTypes.toList.any (P.ifacesRec ·))) = true)
    (k22 : ((c.loopsOut == fn.resultTypes.toList.any (P.loopsFrom ·))) = true)
    (k23 : (c.plainKeys == P.plainKeys) = true)
    (k24 : (c.shortTexts.isNone) = true)
    (k25 : (P.stopsHeard) = true)
    (k26 : (P.mayEnter) = true)
    (k27 : (c.lifted == P.liftsFinal) = true)
    (k28 : (P.make == some c.make) = true)
    (k29 : ((c.kinds == (if c.domain.isEmpty then [] else fn.params.toList.map fun t => match P.underlying t with | some (.int k) => some k | _ => none))) = true)
    (k30 : (c.pinned == c.pinnedBy) = true)
    (k31 : ((c.veiled == (fn.params.toList ++ s.plain.varTypes P ++ fn.resultTypes.toList).any (P.veiledRec ·))) = true)
    (k32 : (c.veiledFits P fn.params.toList (fn.params.toList ++ s.plain.varTypes P ++ fn.resultTypes.toList)) = true)
    : joinedFacts P f fn s c = true := by
  unfold joinedFacts
  exact and_t (and_t (and_t (and_t (and_t (and_t (and_t (and_t (and_t (and_t (and_t (and_t (and_t (and_t (and_t (and_t (and_t (and_t (and_t (and_t (and_t (and_t (and_t (and_t (and_t (and_t (and_t (and_t (and_t (and_t (and_t k1 k2) k3) k4) k5) k6) k7) k8) k9) k10) k11) k12) k13) k14) k15) k16) k17) k18) k19) k20) k21) k22) k23) k24) k25) k26) k27) k28) k29) k30) k31) k32
theorem z_maps : mapsRowed Tryz.prog = true := by kernel_rfl
theorem z_plainKeys : (Go.Proofs.YtjohcjagbodicaaGreatDoor.Rows.wholeSumsRow.plainKeys == Tryz.prog.plainKeys) = true := by kernel_rfl
theorem z_stopsHeard : Tryz.prog.stopsHeard = true := by kernel_rfl
theorem z_lifts : (Go.Proofs.YtjohcjagbodicaaGreatDoor.Rows.wholeSumsRow.lifted == Tryz.prog.liftsFinal) = true := by kernel_rfl
theorem z_make : (Tryz.prog.make == some Go.Proofs.YtjohcjagbodicaaGreatDoor.Rows.wholeSumsRow.make) = true := by kernel_rfl
theorem z_main : YtjohcjagbodicaaGreatDoor.Tryz.pinned.checked.prog.mainIs = some (true, "5b8a1e8da34a88fc5bd34c331ad38cb7b46866bf85af6ffc6bc920dabf7d6da1".toList) := by kernel_rfl
theorem z_looks : true = Tryz.prog.looks [] := by kernel_rfl
theorem z_enter : Tryz.prog.mayEnter = true := by kernel_rfl
end Go.V
