/- A part of the proof: abstract values, rules for the steps of the program's form, and contracts of its functions, each proved; no condition. -/
import Derived.Test.YtjohcjagbodicaaGreatDoorA15
set_option linter.unusedVariables false
set_option linter.unusedSimpArgs false
set_option maxHeartbeats 4000000
set_option maxRecDepth 100000
set_option synthInstance.maxSize 100000
set_option synthInstance.maxHeartbeats 2000000
namespace Go.V
open Go.RowKit Go.Proofs
theorem len_pos_iff {z : Int} : decide (((lim z.natAbs).length : Int) > 0) = decide (z ≠ 0) := by
  have := @ln_pos z.natAbs
  exact decide_eq_decide.2 ⟨fun h e => (by subst e; rw [show (0 : Int).natAbs = 0 from rfl, lim_zero] at h; cases h), fun h => (by have := this.2 (by omega); omega)⟩
end Go.V
/- THE FOUR WAYS OF DIVISION: what quotients and rests satisfy: plain Lean. -/
namespace Go.V
structure DvF (k a b q r : Int) : Prop where
  e : q * b + r = a
  lt : r.natAbs < b.natAbs
  f1 : k = 1 → r ≠ 0 → decide (r < 0) = decide (a < 0)
  f2 : k = 2 → r ≠ 0 → decide (r < 0) = decide (b < 0)
  f3 : k = 3 → ¬ r < 0
  f4 : k = 4 → 2 * r.natAbs < b.natAbs ∨ (2 * r.natAbs = b.natAbs ∧ q.natAbs % 2 = 0)
  lq : q.natAbs ≤ a.natAbs + 1
end Go.V
set_option maxHeartbeats 8000000
set_option maxRecDepth 100000
set_option synthInstance.maxSize 100000
set_option synthInstance.maxHeartbeats 2000000
namespace Go.V
open Go.RowKit Go.Proofs
theorem len_zero_iff {z : Int} : (((lim z.natAbs).length : Int) == 0) = decide (z = 0) := by
  rw [Bool.eq_iff_iff, beq_iff_eq, decide_eq_true_iff]
  have := @ln_pos z.natAbs
  constructor
  · intro h
    apply Classical.byContradiction
    intro hn
    have := this.2 (by omega)
    omega
  · rintro rfl; rw [show (0 : Int).natAbs = 0 from rfl, lim_zero]; rfl
end Go.V
set_option maxHeartbeats 8000000
set_option maxRecDepth 100000
set_option synthInstance.maxSize 100000
set_option synthInstance.maxHeartbeats 2000000
namespace Go.V
open Go.RowKit Go.Proofs
end Go.V
set_option maxHeartbeats 4000000
set_option maxRecDepth 100000
set_option synthInstance.maxSize 100000
set_option synthInstance.maxHeartbeats 2000000
namespace Go.V
open Go.RowKit Go.Proofs
theorem numD_zero : numD 0 = .sl 0 [] := by rw [numD, lim_zero]; rfl
theorem lenN_zero_iff {n : Nat} : (((lim n).length : Int) == 0) = decide (n = 0) := by
  rw [Bool.eq_iff_iff, beq_iff_eq, decide_eq_true_iff]
  have := @ln_pos n
  constructor
  · intro h
    apply Classical.byContradiction
    intro hn
    have := this.2 hn
    omega
  · rintro rfl; rw [lim_zero]; rfl
end Go.V
/- m[k] of a map that is written no longer. -/
namespace Go.V
open Go.RowKit
section
variable {C : Ctx} {env : List D} {H H' : Heap} {dst : Option Tmp} {ty : TypeId} {pos : String} {aft : Array Edge} {gd : Option (Nat × Bool)} {x y z : Operand} {d : D} {T kt et : TypeId} {te : TE}
theorem q_lookupW {k : IntKind} {n : Int} {ks us : List D} {r : Option D} {dz : D} (hm : C.P.underlying T = some (.map kt et)) (hk : C.P.underlying kt = some (.int k)) (hte : C.ty et = some te) (hdz : constD te.zero = some dz) (hx : evO C env x = some (.mapv ks us)) (hy : evO C env y = some (.int k n)) (hl : ks.length = us.length) (hf : findI k n (ks.zip us) = some r) :
    OpQ C ⟨dst, .lookup T x y false, ty, pos, aft, gd⟩ env H (r.getD dz) :=
  OpQ.of_runS fun L0 w μ a hs he => by
    have ex := he _ _ hx
    have ey := he _ _ hy
    simp only [VR] at ex ey
    obtain ⟨b, ea, clock, ex, _, _, k1, k2, k3⟩ := ex
    have hfn := findNow_ok 0 hf (by rw [List.map_fst_zip (by omega)]; exact k2) (by rw [List.map_snd_zip (by omega)]; exact k3)
    have hg : (getObj b).run C.P w = .ok (.map ea clock) w := by simp [getObj, Sem.run, k1]
    cases r with
    | none =>
      simp only at hfn
      refine ⟨te.zero, ?_, constD_ok hdz⟩
      simp only [execOp, ex, ey, Instr.lookup, Sem.run_bind, run_underlying hm, Result.andThen_ok, hg, Sem.run_pure, run_checkKey_int hk, run_findKeyV hk hfn, (ty_tic hte).1.run_zero, Bool.false_eq_true, if_false]
    | some d =>
      simp only at hfn
      obtain ⟨j, v, hfn, hvd⟩ := hfn
      refine ⟨v, ?_, VR.lift hvd⟩
      simp only [execOp, ex, ey, Instr.lookup, Sem.run_bind, run_underlying hm, Result.andThen_ok, hg, Sem.run_pure, run_checkKey_int hk, run_findKeyV hk hfn, Bool.false_eq_true, if_false]
end
end Go.V
set_option maxHeartbeats 4000000
set_option maxRecDepth 100000
set_option synthInstance.maxSize 100000
set_option synthInstance.maxHeartbeats 2000000
namespace Go.V
open Go.RowKit Go.Proofs
theorem w_div3 {a m : Int} (ha : fitZ a) (hm : fitZ m) (h0 : 0 < m) : ∃ q, PC C n_whole_divide [intD a, intD m, .agg [.clos n_whole_kinds_3 []]] (fun o => o = .ret (.tup [intD q, intD (a % m)])) := by
  have h := pc_w_divide a m ha hm (by omega) n_whole_kinds_3 _ (fun _ => pc_w_k3 (a.tdiv m) (a.tmod m) a m)
  rw [divW_euclid h0] at h
  exact ⟨_, h⟩
theorem fit_emod {a m : Int} (hm : fitZ m) (h0 : 0 < m) : fitZ (a % m) := by
  have h1 := Int.emod_nonneg a (show m ≠ 0 by omega)
  have h2 := Int.emod_lt_of_pos a h0
  exact fit_mono (by omega) hm
theorem natSub_ok {a b : Nat} (ha : (lim a).length ≤ 1024) (hb : (lim b).length ≤ 1024) (h : b ≤ a) : PC C n_nat_Sub [numD a, numD b] (fun o => o = .ret (.tup [numD (a - b), .int .i64 0])) :=
  (pc_nat_Sub (lim a) (lim b) (U32_lim _) (U32_lim _)).mono fun o ho => by
    have : (lim (a - b)).length ≤ 1024 := Nat.le_trans (ln_mono (Nat.sub_le _ _)) ha
    rw [ho, resN_ok ha hb, val_lim, val_lim, if_pos h]
    simp only [if_pos this]
theorem natAdd_ok {a b : Nat} (ha : (lim a).length ≤ 1024) (hb : (lim b).length ≤ 1024) (h : (lim (a + b)).length ≤ 1024) : PC C n_nat_Add [numD a, numD b] (fun o => o = .ret (.tup [numD (a + b), .int .i64 0])) :=
  (pc_nat_Add (lim a) (lim b) (U32_lim _) (U32_lim _)).mono fun o ho => by
    rw [ho, resN_ok ha hb, val_lim, val_lim]
    simp only [if_pos h]
end Go.V
set_option maxHeartbeats 4000000
set_option maxRecDepth 100000
set_option synthInstance.maxSize 100000
set_option synthInstance.maxHeartbeats 2000000
namespace Go.V
open Go.RowKit Go.Proofs
theorem and1_toNat {w m : Nat} (h : m < 2 ^ w) (hw : 1 < 2 ^ w) : (BitVec.ofInt w (m : Int) &&& BitVec.ofInt w 1).toNat = m % 2 := by
  rw [show (1 : Int) = ((1 : Nat) : Int) from rfl, bv_nat, bv_nat, BitVec.toNat_and, BitVec.toNat_ofNat, BitVec.toNat_ofNat, Nat.mod_eq_of_lt h, Nat.mod_eq_of_lt hw, Nat.and_one_is_mod]
theorem nand1_i64 {m : Nat} (h : m < 9223372036854775808) : IntKind.i64.wrap ((BitVec.ofInt IntKind.i64.bits (m : Int) &&& BitVec.ofInt IntKind.i64.bits 1).toNat : Int) = ((m % 2 : Nat) : Int) := by
  have : IntKind.i64.bits = 64 := rfl
  rw [this, and1_toNat (by omega) (by decide), IntWalk.i64_in _ (by omega)]
theorem nand1_u32 {m : Nat} (h : m < 4294967296) : IntKind.u32.wrap ((BitVec.ofInt IntKind.u32.bits (m : Int) &&& BitVec.ofInt IntKind.u32.bits 1).toNat : Int) = ((m % 2 : Nat) : Int) := by
  have : IntKind.u32.bits = 32 := rfl
  rw [this, and1_toNat (by omega) (by decide), IntWalk.u32_in _ (by omega)]
theorem pc_Len64 (x : Nat) (hx : x < 18446744073709551616) : PC C n_bits_Len64 [.int .u64 (x : Int)] (fun o => o = .ret (.int .i64 (bl x : Nat))) := by
  refine PC.run fn_bits_Len64 en_bits_Len64 rfl nt_bits_Len64 rfl (rs := [.tmp 2]) (by rw [rs_bits_Len64]) (by simp only [List.length_cons, List.length_nil, Nat.reduceAdd, Nat.reduceSub, List.replicate_succ, List.replicate_zero, List.cons_append, List.nil_append]; exact rfl) ?_
  refine ARun.seq ?_
  refine ARun.region ?_
  refine y_op rfl (q_assign rfl) ?_
  refine AOps.nil ?_
  refine ARun.seq ?_
  refine ARun.seq ?_
  refine ARun.region ?_
  refine y_op rfl (q_move rfl) ?_
  refine y_op rfl (q_int rfl rfl rfl) ?_
  refine AOps.nil ?_
  refine ARun.join (S := Nat × Nat) (fun σ : Nat × Nat => [(5, .any), (6, .any), (0, .int .u64 (σ.1 : Int)), (2, .int .i64 (σ.2 : Int))]) (fun σ : Nat × Nat => σ.1 < 4294967296 ∧ σ.2 + bl σ.1 = bl x ∧ σ.2 ≤ 32) (fun run => ?_) ?_
  · skip
    refine ARun.ite rfl (fun h => ?_) (fun h => ?_)
    · skip
      have e1 : bl x = 32 + bl (x / 2 ^ 32) := bl_div (by omega)
      refine ARun.seq ?_
      refine ARun.region ?_
      refine y_op rfl (q_move rfl) ?_
      refine y_op rfl (q_shr rfl rfl (by omega) nshr32) ?_
      refine y_op rfl (q_assign rfl) ?_
      refine AOps.nil ?_
      refine ARun.region ?_
      refine y_op rfl (q_assign rfl) ?_
      refine AOps.nil ?_
      exact ARun.again (run ((x / 4294967296, 32)) (⟨by dsimp only; omega, e1.symm, by dsimp only; omega⟩)) (by (repeat' first | exact envLe_nil | apply envLe_any | apply envLe_same)) rfl
    · skip
      refine ARun.skip ?_
      exact ARun.again (run ((x, 0)) (⟨by dsimp only; omega, Nat.zero_add _, by dsimp only; omega⟩)) (by (repeat' first | exact envLe_nil | apply envLe_any | apply envLe_same)) rfl
  · rintro ⟨y, c⟩ hj
    try dsimp only at hj ⊢
    obtain ⟨j1, j2, j3⟩ := hj
    refine ARun.seq ?_
    refine ARun.seq ?_
    refine ARun.region ?_
    refine y_op rfl (q_move rfl) ?_
    refine y_op rfl (q_int rfl rfl rfl) ?_
    refine AOps.nil ?_
    refine ARun.join (S := Nat × Nat) (fun σ : Nat × Nat => [(9, .any), (10, .any), (11, .any), (12, .any), (0, .int .u64 (σ.1 : Int)), (2, .int .i64 (σ.2 : Int))]) (fun σ : Nat × Nat => σ.1 < 65536 ∧ σ.2 + bl σ.1 = bl x ∧ σ.2 ≤ 48) (fun run => ?_) ?_
    · skip
      refine ARun.ite rfl (fun h => ?_) (fun h => ?_)
      · skip
        have e1 : bl y = 16 + bl (y / 2 ^ 16) := bl_div (by omega)
        refine ARun.seq ?_
        refine ARun.region ?_
        refine y_op rfl (q_move rfl) ?_
        refine y_op rfl (q_shr rfl rfl (by omega) (nshr (s := 16) rfl (by decide))) ?_
        refine y_op rfl (q_assign rfl) ?_
        refine AOps.nil ?_
        refine ARun.region ?_
        refine y_op rfl (q_move rfl) ?_
        refine y_op rfl (q_add rfl rfl (nadd1_i64 (by omega))) ?_
        refine y_op rfl (q_assign rfl) ?_
        refine AOps.nil ?_
        exact ARun.again (run ((y / 2 ^ 16, c + 16)) (⟨by dsimp only; omega, by dsimp only; omega, by dsimp only; omega⟩)) (by (repeat' first | exact envLe_nil | apply envLe_any | apply envLe_same)) rfl
      · skip
        refine ARun.skip ?_
        exact ARun.again (run ((y, c)) (⟨by dsimp only; omega, j2, by dsimp only; omega⟩)) (by (repeat' first | exact envLe_nil | apply envLe_any | apply envLe_same)) rfl
    · rintro ⟨z, d⟩ hj
      try dsimp only at hj ⊢
      obtain ⟨m1, m2, m3⟩ := hj
      refine ARun.seq ?_
      refine ARun.seq ?_
      refine ARun.region ?_
      refine y_op rfl (q_move rfl) ?_
      refine y_op rfl (q_int rfl rfl rfl) ?_
      refine AOps.nil ?_
      refine ARun.join (S := Nat × Nat) (fun σ : Nat × Nat => [(15, .any), (16, .any), (17, .any), (18, .any), (0, .int .u64 (σ.1 : Int)), (2, .int .i64 (σ.2 : Int))]) (fun σ : Nat × Nat => σ.1 < 256 ∧ σ.2 + bl σ.1 = bl x ∧ σ.2 ≤ 56) (fun run => ?_) ?_
      · skip
        refine ARun.ite rfl (fun h => ?_) (fun h => ?_)
        · skip
          have e1 : bl z = 8 + bl (z / 2 ^ 8) := bl_div (by omega)
          refine ARun.seq ?_
          refine ARun.region ?_
          refine y_op rfl (q_move rfl) ?_
          refine y_op rfl (q_shr rfl rfl (by omega) (nshr (s := 8) rfl (by decide))) ?_
          refine y_op rfl (q_assign rfl) ?_
          refine AOps.nil ?_
          refine ARun.region ?_
          refine y_op rfl (q_move rfl) ?_
          refine y_op rfl (q_add rfl rfl (nadd1_i64 (by omega))) ?_
          refine y_op rfl (q_assign rfl) ?_
          refine AOps.nil ?_
          exact ARun.again (run ((z / 2 ^ 8, d + 8)) (⟨by dsimp only; omega, by dsimp only; omega, by dsimp only; omega⟩)) (by (repeat' first | exact envLe_nil | apply envLe_any | apply envLe_same)) rfl
        · skip
          refine ARun.skip ?_
          exact ARun.again (run ((z, d)) (⟨by dsimp only; omega, m2, by dsimp only; omega⟩)) (by (repeat' first | exact envLe_nil | apply envLe_any | apply envLe_same)) rfl
      · rintro ⟨u, e⟩ hj
        try dsimp only at hj ⊢
        obtain ⟨l1, l2, l3⟩ := hj
        have l4 : u % 256 = u := Nat.mod_eq_of_lt l1
        have l5 := @bl_le u 8
        refine ARun.seq ?_
        refine ARun.region ?_
        refine y_op rfl (q_move rfl) ?_
        refine y_op rfl (q_move rfl) ?_
        refine y_op rfl (q_conv rfl rfl rfl nconv_u8) ?_
        refine y_op rfl (q_idxStr rfl rfl rfl (by omega) (tab_lt (f := bl) (N := 256) (by kernel_rfl) rfl (by omega)) (tab_get (f := bl) (N := 256) (by kernel_rfl) rfl (by omega) _)) ?_
        refine y_op rfl (q_conv rfl rfl rfl (nconv_i64 (bl8 _))) ?_
        refine y_op rfl (q_add rfl rfl (r := (bl x : Nat)) (by rw [l4, IntWalk.i64_in _ (by omega)]; omega)) ?_
        refine y_op rfl (q_assign rfl) ?_
        refine AOps.nil ?_
        refine ARun.ret ?_
        refine ⟨_, _, _, .tmp rfl .nil, .cons (.same _) .nil, rfl, ?_⟩
        rfl
theorem pc_Len (x : Nat) (hx : x < 18446744073709551616) : PC C n_bits_Len [.int .u64 (x : Int)] (fun o => o = .ret (.int .i64 (bl x : Nat))) := by
  refine PC.run fn_bits_Len en_bits_Len rfl nt_bits_Len rfl (rs := [.tmp 2]) (by rw [rs_bits_Len]) (by simp only [List.length_cons, List.length_nil, Nat.reduceAdd, Nat.reduceSub, List.replicate_succ, List.replicate_zero, List.cons_append, List.nil_append]; exact rfl) ?_
  refine ARun.seq ?_
  refine ARun.region ?_
  refine y_op rfl (q_assign rfl) ?_
  refine AOps.nil ?_
  refine ARun.seq ?_
  refine ARun.condF rfl ?_
  refine ARun.skip ?_
  refine ARun.seq ?_
  refine ARun.region ?_
  refine y_op rfl (q_move rfl) ?_
  refine y_op rfl (q_call rfl rfl (pc_Len64 x hx)) ?_
  refine y_op rfl (q_assign rfl) ?_
  refine AOps.nil ?_
  refine ARun.ret ?_
  refine ⟨_, _, _, .tmp rfl .nil, .cons (.same _) .nil, rfl, ?_⟩
  rfl
theorem pow_len {a e n m : Nat} (h : e ≤ n) (hn : (lim (a ^ n)).length ≤ m) (hm : 1 ≤ m) : (lim (a ^ e)).length ≤ m := by
  rcases Nat.eq_zero_or_pos a with h0 | h0
  · subst h0
    have : (0 : Nat) ^ e ≤ 1 := by rcases Nat.eq_zero_or_pos e with h | h; subst h; decide; rw [Nat.zero_pow h]; decide
    have h2 := ln_mono this
    rw [lim_one] at h2
    exact Nat.le_trans h2 hm
  · exact Nat.le_trans (ln_mono (Nat.pow_le_pow_right h0 h)) hn
theorem pc_nat_pow (a n : Nat) (ha : (lim a).length ≤ 100000) (hn : n ≤ 9223372036854775807) (hl : (lim (a ^ n)).length ≤ 1000000) : PC C n_nat_limbs_pow [numD a, .int .i64 (n : Int)] (fun o => o = .ret (numD (a ^ n))) := by
  have hb : bl n ≤ 63 := bl_le.2 (by omega)
  refine PC.run fn_nat_limbs_pow en_nat_limbs_pow rfl nt_nat_limbs_pow rfl (rs := [.tmp 4]) (by rw [rs_nat_limbs_pow]) (by simp only [List.length_cons, List.length_nil, Nat.reduceAdd, Nat.reduceSub, List.replicate_succ, List.replicate_zero, List.cons_append, List.nil_append]; exact rfl) ?_
  refine ARun.seq ?_
  refine ARun.region ?_
  refine y_op rfl (q_assign rfl) ?_
  refine AOps.nil ?_
  refine ARun.seq ?_
  refine ARun.region ?_
  refine y_op rfl (OpQ.cast (q_buildF rfl rfl rfl rfl rfl rfl rfl rfl rfl rfl rfl (by decide) (by decide) rfl) numD_one) ?_
  refine y_op rfl (q_assign rfl) ?_
  refine AOps.nil ?_
  refine ARun.seq ?_
  refine ARun.seq ?_
  refine ARun.region ?_
  refine y_op rfl (q_move rfl) ?_
  refine y_op rfl (q_conv rfl rfl rfl (nconv_u64 (by omega))) ?_
  refine y_op rfl (q_call rfl rfl (pc_Len n (by omega))) ?_
  refine y_op rfl (q_sub rfl rfl (IntWalk.i64_in _ (by omega))) ?_
  refine y_op rfl (q_assign rfl) ?_
  refine AOps.nil ?_
  refine ARun.block ?_
  refine ARun.loopI (S := Nat × Nat) (fun σ : Nat × Nat => [(12, .any), (13, .any), (14, .any), (15, .any), (16, .any), (17, .any), (18, .any), (19, .any), (20, .any), (21, .any), (22, .any), (23, .any), (24, .any), (25, .any), (26, .any), (5, numD σ.2), (6, .int .i64 ((σ.1 : Int) - 1))]) (fun σ : Nat × Nat => []) (fun σ : Nat × Nat => σ.1 ≤ bl n ∧ σ.2 = a ^ (n / 2 ^ σ.1)) (fun σ : Nat × Nat => σ.1) ((bl n, 1)) ?_ ?_ ?_ ?_
  · exact ⟨Nat.le_refl _, by dsimp only; rw [Nat.div_eq_of_lt (lt_bl n), Nat.pow_zero]⟩
  · (repeat' first | exact envLe_nil | apply envLe_any | apply envLe_same)
  · rfl
  rintro ⟨k, out⟩ hinv ih
  dsimp only at hinv ih ⊢
  obtain ⟨hk, rfl⟩ := hinv
  refine ARun.seq ?_
  refine ARun.seq ?_
  refine ARun.region ?_
  refine y_op rfl (q_move rfl) ?_
  refine y_op rfl (q_int rfl rfl rfl) ?_
  refine AOps.nil ?_
  refine ARun.ite rfl (fun h => ?_) (fun h => ?_)
  · skip
    obtain ⟨j, rfl⟩ : ∃ j, k = j + 1 := ⟨k - 1, by omega⟩
    rw [show (((j + 1 : Nat) : Int) - 1) = (j : Int) by omega]
    have e1 : n / 2 ^ (j + 1) + n / 2 ^ (j + 1) + n / 2 ^ j % 2 = n / 2 ^ j := by
      rw [Nat.pow_succ, ← Nat.div_div_eq_div_mul]; omega
    have e2 : n / 2 ^ j ≤ n := Nat.div_le_self _ _
    have e3 : a ^ (n / 2 ^ (j + 1)) * a ^ (n / 2 ^ (j + 1)) = a ^ (n / 2 ^ (j + 1) + n / 2 ^ (j + 1)) := (Nat.pow_add ..).symm
    have l1 := pow_len (a := a) (e := n / 2 ^ (j + 1)) (n := n) (by omega) hl (by decide)
    have l2 := pow_len (a := a) (e := n / 2 ^ (j + 1) + n / 2 ^ (j + 1)) (n := n) (by omega) hl (by decide)
    refine ARun.skip ?_
    refine ARun.seq ?_
    refine ARun.block ?_
    refine ARun.seq ?_
    refine ARun.region ?_
    refine y_op rfl (q_move rfl) ?_
    refine y_op rfl (q_move rfl) ?_
    refine y_op rfl (q_call rfl rfl ((pc_nat_mul (a ^ (n / 2 ^ (j + 1))) (a ^ (n / 2 ^ (j + 1))) (by omega) (by omega)).mono fun o ho => by rw [ho, e3])) ?_
    refine y_op rfl (q_assign rfl) ?_
    refine AOps.nil ?_
    refine ARun.seq ?_
    refine ARun.region ?_
    refine y_op rfl (q_move rfl) ?_
    refine y_op rfl (q_move rfl) ?_
    refine y_op rfl (q_shr rfl rfl (by omega) (nshr rfl (by show j ≤ 64; omega))) ?_
    refine y_op rfl (q_andR rfl rfl (nand1_i64 (by omega))) ?_
    refine y_op rfl (q_int rfl rfl rfl) ?_
    refine AOps.nil ?_
    refine ARun.cond rfl (fun h2 => ?_) (fun h2 => ?_)
    · skip
      have h2 : n / 2 ^ j % 2 = 1 := by
        have : ((n / 2 ^ j % 2 : Nat) : Int) = 1 := by simpa using h2
        omega
      have e4 : a ^ (n / 2 ^ (j + 1) + n / 2 ^ (j + 1)) * a = a ^ (n / 2 ^ j) := by rw [← Nat.pow_succ]; congr 1; omega
      refine ARun.region ?_
      refine y_op rfl (q_move rfl) ?_
      refine y_op rfl (q_move rfl) ?_
      refine y_op rfl (q_call rfl rfl ((pc_nat_mul (a ^ (n / 2 ^ (j + 1) + n / 2 ^ (j + 1))) a (by omega) (by omega)).mono fun o ho => by rw [ho, e4])) ?_
      refine y_op rfl (q_assign rfl) ?_
      refine AOps.nil ?_
      refine ARun.inBlock ?_
      refine ARun.region ?_
      refine y_op rfl (q_move rfl) ?_
      refine y_op rfl (q_sub rfl rfl (IntWalk.i64_in _ (by omega))) ?_
      refine y_op rfl (q_assign rfl) ?_
      refine AOps.nil ?_
      refine ARun.again (ih ((j, a ^ (n / 2 ^ j))) ?_ ?_) ?_ ?_
      · exact ⟨by dsimp only; omega, rfl⟩
      · exact Nat.lt_succ_self _
      · (repeat' first | exact envLe_nil | apply envLe_any | apply envLe_same)
      · rfl
    · skip
      have h2 : n / 2 ^ j % 2 = 0 := by
        have : ¬ ((n / 2 ^ j % 2 : Nat) : Int) = 1 := by simpa using h2
        omega
      have e4 : n / 2 ^ (j + 1) + n / 2 ^ (j + 1) = n / 2 ^ j := by omega
      rw [e4]
      refine ARun.skip ?_
      refine ARun.inBlock ?_
      refine ARun.region ?_
      refine y_op rfl (q_move rfl) ?_
      refine y_op rfl (q_sub rfl rfl (IntWalk.i64_in _ (by omega))) ?_
      refine y_op rfl (q_assign rfl) ?_
      refine AOps.nil ?_
      refine ARun.again (ih ((j, a ^ (n / 2 ^ j))) ?_ ?_) ?_ ?_
      · exact ⟨by dsimp only; omega, rfl⟩
      · exact Nat.lt_succ_self _
      · (repeat' first | exact envLe_nil | apply envLe_any | apply envLe_same)
      · rfl
  · skip
    have hk0 : k = 0 := by omega
    subst hk0
    refine ARun.exit rfl ?_
    refine ARun.seq ?_
    refine ARun.region ?_
    refine y_op rfl (q_move rfl) ?_
    refine y_op rfl (q_assign rfl) ?_
    refine AOps.nil ?_
    refine ARun.ret ?_
    refine ⟨_, _, _, .tmp rfl .nil, .cons (.same _) .nil, rfl, ?_⟩
    rw [Nat.pow_zero, Nat.div_one]; rfl
/-- A power, or an error. -/
def powR (a n : Nat) : Nat × Int := if (lim (a ^ n)).length ≤ 1024 then (a ^ n, 0) else (0, 2)
theorem one_fit : (lim 1).length ≤ 1024 := by rw [lim_one]; decide
theorem pow_unfit {a n K : Nat} (hK : 0 < K) (h : 32 * K < n ∧ 2 ≤ a ∨ 32 * K ≤ (bl a - 1) * n) : ¬ (lim (a ^ n)).length ≤ K := by
  rw [ln_le_iff, B_pow]
  intro hlt
  have h2 : 2 ^ (32 * K) ≤ a ^ n := by
    rcases h with ⟨h1, h2⟩ | h
    · exact Nat.le_trans (Nat.pow_le_pow_right (by decide) (Nat.le_of_lt h1)) (Nat.pow_le_pow_left h2 n)
    · have hb : 1 ≤ bl a := by
        rcases Nat.eq_zero_or_pos (bl a) with h0 | h0
        · rw [h0, Nat.zero_sub, Nat.zero_mul] at h; omega
        · exact h0
      have h3 : 2 ^ (bl a - 1) ≤ a := bl_lt.1 (by omega)
      refine Nat.le_trans (Nat.pow_le_pow_right (by decide) h) ?_
      rw [Nat.pow_mul]
      exact Nat.pow_le_pow_left h3 n
  exact absurd hlt (Nat.not_lt.2 h2)
theorem pow_room {a n K : Nat} (hK : 0 < K) (h : bl a * n ≤ 32 * K) : (lim (a ^ n)).length ≤ K := by
  rcases Nat.eq_zero_or_pos n with h0 | h0
  · subst h0
    rw [Nat.pow_zero, lim_one]; exact hK
  · rw [ln_le_iff, B_pow]
    refine Nat.lt_of_lt_of_le (Nat.pow_lt_pow_left (lt_bl a) (by omega)) ?_
    rw [← Nat.pow_mul]
    exact Nat.pow_le_pow_right (by decide) h
theorem pc_nat_Pow (a n : Nat) (ha : (lim a).length ≤ 1024) (hn : n ≤ 9223372036854775807) : PC C n_nat_Pow [numD a, .int .i64 (n : Int)] (fun o => o = .ret (.tup [numD (powR a n).1, .int .i64 (powR a n).2])) := by
  have pan : ∀ (e : Int) (env : List D), env[4]? = some .nilsl → env[5]? = some (.ptr 0 0) → powR a n = (0, e) → (QFin C [.tmp 4, .cell 5 t_api_Errno] fun o x => o.pure = true ∧ o = .ret (.tup [numD (powR a n).1, .int .i64 (powR a n).2])) (.pan (failN e)) env [some ⟨[.int .i64 0], t_api_Errno, 1, true, none⟩] [.fn n_nat_caught [.ptr 0 0]] := by
    intro e env h4 h5 hr
    refine DC.mono (dc0_caught_pan 0 e) ?_
    rintro _ _ ⟨rfl, rfl⟩
    exact ⟨_, _, _, .tmp h4 (ResR.cell1 h5 rfl rfl rfl rfl .nil), .cons .nil (.cons (.same _) .nil), rfl, by rw [hr, numD_zero]; rfl⟩
  have hbl := bl_le_ln a
  have hcmp : PC C n_nat_limbs_cmp [numD a, .sl 1 [.int .u32 1]] (fun o => o = .ret (.int .i64 (cmpI a 1))) := by
    rw [numD_one]; exact pc_nat_cmp a 1 (by omega) (by rw [lim_one]; decide)
  have hc1 : decide (cmpI a 1 ≤ 0) = decide (a ≤ 1) := by
    refine decide_eq_decide.2 ?_
    unfold cmpI
    split
    · constructor <;> intro <;> omega
    · split <;> constructor <;> intro <;> omega
  refine PC.run fn_nat_Pow en_nat_Pow rfl nt_nat_Pow rfl (rs := [.tmp 4, .cell 5 28]) (by rw [rs_nat_Pow]) (by simp only [List.length_cons, List.length_nil, Nat.reduceAdd, Nat.reduceSub, List.replicate_succ, List.replicate_zero, List.cons_append, List.nil_append]; exact rfl) ?_
  refine ARun.seq ?_
  refine ARun.region ?_
  refine y_op rfl (q_assign rfl) ?_
  refine y_new rfl (n_alloc rfl rfl rfl rfl) ?_
  refine AOps.nil ?_
  refine ARun.seq ?_
  refine ARun.region ?_
  refine y_defer rfl rfl rfl ?_
  refine AOps.nil ?_
  refine ARun.seq ?_
  refine ARun.region ?_
  refine y_op rfl (q_move rfl) ?_
  refine y_op rfl (q_buildF rfl rfl rfl rfl rfl rfl rfl rfl rfl rfl rfl (by decide) (by decide) rfl) ?_
  refine y_gop rfl (g_call rfl rfl (PC.gp (pc_nat_taken [lim a] 1 rfl))) (fun _ => ?_) (fun q hq => by obtain ⟨hq, rfl⟩ := hq; simp only [List.all_cons, List.all_nil, Bool.and_true, okB_lim ha] at hq; cases hq)
  refine AOps.nil ?_
  refine ARun.seq ?_
  refine ARun.region ?_
  refine y_op rfl (q_move rfl) ?_
  refine y_op rfl (q_intB (b := true) rfl rfl rfl (decide_eq_true (by omega))) ?_
  refine y_gop rfl (g_call rfl rfl (PC.gp (pc_nat_need _ 1))) (fun _ => ?_) (fun q hq => by obtain ⟨hq, rfl⟩ := hq; cases hq)
  refine AOps.nil ?_
  refine ARun.seq ?_
  refine ARun.region ?_
  refine y_op rfl (q_move rfl) ?_
  refine y_op rfl (q_assign rfl) ?_
  refine AOps.nil ?_
  refine ARun.seq ?_
  refine ARun.seq ?_
  refine ARun.join (S := Bool) (fun t : Bool => [(14, .any), (15, .any), (16, .any), (17, .any), (18, .any), (19, .any), (20, .any), (21, .bool t)]) (fun t : Bool => t = decide (0 < n ∧ a ≤ 1)) (fun run => ?_) ?_
  · skip
    refine ARun.region ?_
    refine y_op rfl (q_move rfl) ?_
    refine y_op rfl (q_intB (b := decide (0 < n)) rfl rfl rfl (decide_eq_decide.2 (by omega))) ?_
    refine y_op rfl (q_move rfl) ?_
    refine AOps.bool 16 rfl (fun c1 => ?_) (fun c1 => ?_)
    · skip
      have c1 := of_decide_eq_true c1
      refine y_op rfl (q_move rfl) ?_
      refine y_op rfl (q_buildF rfl rfl rfl rfl rfl rfl rfl rfl rfl rfl rfl (by decide) (by decide) rfl) ?_
      refine y_op rfl (q_call rfl rfl (hcmp)) ?_
      refine y_op rfl (q_intB (b := decide (a ≤ 1)) rfl rfl rfl hc1) ?_
      refine y_op rfl (q_pick rfl rfl rfl rfl) ?_
      refine AOps.nil ?_
      exact ARun.again (run (decide (a ≤ 1)) (decide_eq_decide.2 ⟨fun h => ⟨c1, h⟩, fun h => h.2⟩)) (by (repeat' first | exact envLe_nil | apply envLe_any | apply envLe_same)) rfl
    · skip
      have c1 := of_decide_eq_false c1
      refine y_skip rfl ?_
      refine y_skip rfl ?_
      refine y_skip rfl ?_
      refine y_skip rfl ?_
      refine y_op rfl (q_pick rfl rfl rfl rfl) ?_
      refine AOps.nil ?_
      exact ARun.again (run (false) ((decide_eq_false (fun h => c1 h.1)).symm)) (by (repeat' first | exact envLe_nil | apply envLe_any | apply envLe_same)) rfl
  · rintro t hj
    try dsimp only at hj ⊢
    subst hj
    refine ARun.ite rfl (fun h => ?_) (fun h => ?_)
    · skip
      have hp : a ^ n = a := by
        rcases (show a = 0 ∨ a = 1 by omega) with rfl | rfl
        · exact Nat.zero_pow h.1
        · exact Nat.one_pow n
      refine ARun.seq ?_
      refine ARun.region ?_
      refine y_op rfl (q_move rfl) ?_
      refine y_gop rfl (g_call rfl rfl (PC.gp (pc_nat_given a))) (fun hf => ?_) (fun q hq => by obtain ⟨hq, rfl⟩ := hq; exact absurd ha hq)
      refine y_op rfl (q_assign rfl) ?_
      refine y_new rfl (n_store1 rfl rfl rfl rfl rfl rfl (Nat.le_of_ble_eq_true rfl) rfl) ?_
      refine AOps.nil ?_
      refine ARun.ret ?_
      refine DC.mono (dc0_caught_ret 0) ?_
      rintro _ _ ⟨rfl, rfl⟩
      exact ⟨_, _, _, .tmp rfl (ResR.cell1 rfl rfl rfl rfl rfl .nil), .cons (.same _) (.cons (.same _) .nil), rfl, by unfold powR; rw [hp, if_pos ha]; rfl⟩
    · skip
      have hn2 : n = 0 ∨ 2 ≤ a := by
        rcases Nat.eq_zero_or_pos n with h0 | h0
        · exact .inl h0
        · exact .inr (by apply Classical.byContradiction; intro hh; exact h ⟨h0, by omega⟩)
      have hz : ((bl a : Int) - 1) * (n : Int) = (((bl a - 1) * n : Nat) : Int) := by
        rcases Nat.eq_zero_or_pos (bl a) with h0 | h0
        · have ha0 : a = 0 := by have := bl_le.1 (Nat.le_of_eq h0); rw [Nat.pow_zero] at this; omega
          have : n = 0 := by omega
          subst this
          rw [Nat.mul_zero]; exact Int.mul_zero _
        · rw [Int.natCast_mul]; congr 1; omega
      refine ARun.skip ?_
      refine ARun.seq ?_
      refine ARun.region ?_
      refine y_op rfl (q_move rfl) ?_
      refine y_op rfl (q_int rfl rfl rfl) ?_
      refine y_op rfl (q_move rfl) ?_
      refine AOps.bool 26 rfl (fun c3 => ?_) (fun c3 => ?_)
      · skip
        have c3 : n ≤ 32768 := by have := of_decide_eq_true c3; omega
        have hm : (bl a - 1) * n ≤ 32768 * 32768 := Nat.mul_le_mul (by omega) c3
        refine y_op rfl (q_move rfl) ?_
        refine y_op rfl (q_call rfl rfl (pc_nat_size a (by omega))) ?_
        refine y_op rfl (q_sub rfl rfl (IntWalk.i64_in _ (by omega))) ?_
        refine y_op rfl (q_move rfl) ?_
        refine y_op rfl (q_mul (r := (((bl a - 1) * n : Nat) : Int)) rfl rfl (by rw [hz, IntWalk.i64_in _ (by omega)])) ?_
        refine y_op rfl (q_int rfl rfl rfl) ?_
        refine y_op rfl (q_pick rfl rfl rfl rfl) ?_
        refine y_gop rfl (g_call rfl rfl (PC.gp (pc_nat_need _ 2))) (fun hg => ?_) (fun q hq => by obtain ⟨hq, rfl⟩ := hq; exact pan 2 _ rfl rfl (by have hq : 32768 ≤ (bl a - 1) * n := (by have := of_decide_eq_false hq; omega); unfold powR; rw [if_neg (pow_unfit (by decide) (.inr (by omega)))]))
        have hg : (bl a - 1) * n < 32768 := by have := of_decide_eq_true hg; omega
        have hroom : (lim (a ^ n)).length ≤ 2049 := pow_room (by decide) (by
          rcases Nat.eq_zero_or_pos (bl a) with h0 | h0
          · rw [h0, Nat.zero_mul]; exact Nat.zero_le _
          · have : bl a * n = (bl a - 1) * n + n := by
              obtain ⟨m, hm⟩ : ∃ m, bl a = m + 1 := ⟨bl a - 1, by omega⟩
              rw [hm, Nat.add_sub_cancel, Nat.add_mul, Nat.one_mul]
            omega)
        refine AOps.nil ?_
        refine ARun.seq ?_
        refine ARun.region ?_
        refine y_op rfl (q_move rfl) ?_
        refine y_op rfl (q_move rfl) ?_
        refine y_op rfl (q_call rfl rfl (pc_nat_pow a n (by omega) hn (by omega))) ?_
        refine y_gop rfl (g_call rfl rfl (PC.gp (pc_nat_given (a ^ n)))) (fun hf => ?_) (fun q hq => by obtain ⟨hq, rfl⟩ := hq; exact pan 2 _ rfl rfl (by unfold powR; rw [if_neg hq]))
        refine y_op rfl (q_assign rfl) ?_
        refine y_new rfl (n_store1 rfl rfl rfl rfl rfl rfl (Nat.le_of_ble_eq_true rfl) rfl) ?_
        refine AOps.nil ?_
        refine ARun.ret ?_
        refine DC.mono (dc0_caught_ret 0) ?_
        rintro _ _ ⟨rfl, rfl⟩
        exact ⟨_, _, _, .tmp rfl (ResR.cell1 rfl rfl rfl rfl rfl .nil), .cons (.same _) (.cons (.same _) .nil), rfl, by unfold powR; rw [if_pos hf]; rfl⟩
      · skip
        have c3 : ¬ n ≤ 32768 := by have := of_decide_eq_false c3; omega
        refine y_skip rfl ?_
        refine y_skip rfl ?_
        refine y_skip rfl ?_
        refine y_skip rfl ?_
        refine y_skip rfl ?_
        refine y_skip rfl ?_
        refine y_op rfl (q_pick rfl rfl rfl rfl) ?_
        refine y_gop rfl (g_call rfl rfl (PC.gp (pc_nat_need _ 2))) (fun hg => by cases hg) (fun q hq => by obtain ⟨hq, rfl⟩ := hq; exact pan 2 _ rfl rfl (by unfold powR; rw [if_neg (pow_unfit (by decide) (.inl ⟨by omega, by omega⟩))]))
theorem sgnd_pow (a : Int) (n : Nat) : sgnd (decide (a < 0) && decide (n % 2 = 1)) (a.natAbs ^ n) = a ^ n := by
  have key : ∀ n : Nat, (-(a.natAbs : Int)) ^ n = if n % 2 = 1 then -((a.natAbs ^ n : Nat) : Int) else ((a.natAbs ^ n : Nat) : Int) := by
    intro n
    induction n with
    | zero => simp
    | succ n ih =>
      rw [Int.pow_succ, ih, Nat.pow_succ, Int.natCast_mul]
      by_cases h : n % 2 = 1
      · rw [if_pos h, if_neg (by omega), Int.neg_mul_neg]
      · rw [if_neg h, if_pos (by omega), Int.mul_neg]
  by_cases h : a < 0
  · rw [decide_eq_true h, Bool.true_and]
    have e : a ^ n = (-(a.natAbs : Int)) ^ n := by congr 1; omega
    rw [e, key]
    by_cases h2 : n % 2 = 1
    · rw [decide_eq_true h2, if_pos h2]; rfl
    · rw [decide_eq_false h2, if_neg h2]; rfl
  · rw [decide_eq_false h, Bool.false_and]
    have e : a ^ n = (a.natAbs : Int) ^ n := by congr 1; omega
    rw [e, ← Int.natCast_pow]; rfl
noncomputable def powO (a n : Int) : Int ⊕ Int := if n < 0 then .inr 1 else fitO (a ^ n.toNat)
theorem fit_pow {a : Int} {n : Nat} : fitZ (a ^ n) ↔ (lim (a.natAbs ^ n)).length ≤ 1024 := by unfold fitZ; rw [Int.natAbs_pow]
theorem pc_w_Pow_1 (a : Int) (ha : fitZ a) (n : Int) (hn : n ≤ 9223372036854775807) : PC C n_whole_Pow_1 [.sptr [.int .i64 n], capZ a] (fun o => o = outZ (powO a n)) := by
  refine PC.run fn_whole_Pow_1 en_whole_Pow_1 rfl nt_whole_Pow_1 rfl (rs := [.cell 2 25]) (by rw [rs_whole_Pow_1]) (by simp only [List.length_cons, List.length_nil, Nat.reduceAdd, Nat.reduceSub, List.replicate_succ, List.replicate_zero, List.cons_append, List.nil_append]; exact rfl) ?_
  refine ARun.seq ?_
  refine ARun.region ?_
  refine y_new rfl (n_alloc rfl rfl rfl rfl) ?_
  refine AOps.nil ?_
  refine ARun.seq ?_
  refine ARun.region ?_
  refine y_op rfl (q_load rfl rfl rfl rfl) ?_
  refine y_op rfl (q_int rfl rfl rfl) ?_
  refine y_gop rfl (g_call rfl rfl (PC.gp (pc_w_need _ 1))) (fun hg => ?_) (fun q hq => by obtain ⟨hq, rfl⟩ := hq; exact ⟨_, _, .same _, rfl, by have hq : ¬ n ≥ 0 := of_decide_eq_false hq; unfold powO; rw [if_pos (by omega)]; rfl⟩)
  have hg : n ≥ 0 := of_decide_eq_true hg
  obtain ⟨m, rfl⟩ : ∃ m : Nat, n = (m : Int) := ⟨n.toNat, by omega⟩
  have hO : powO a (m : Int) = fitO (a ^ m) := by unfold powO; rw [if_neg (by omega)]; rfl
  rw [hO]
  have hsp := sgnd_pow a m
  have hre : (powR a.natAbs m).2 ≠ 0 → (powR a.natAbs m).2 = 2 ∧ fitO (a ^ m) = .inr 2 := by
    unfold powR
    split
    · intro h; exact absurd rfl h
    · rename_i h
      intro _
      exact ⟨rfl, fitO_f (fun hf => h (fit_pow.1 hf))⟩
  have hro : (powR a.natAbs m).2 = 0 → (powR a.natAbs m).1 = a.natAbs ^ m ∧ fitO (a ^ m) = .inl (a ^ m) := by
    unfold powR
    split
    · rename_i h
      intro _
      exact ⟨rfl, fitO_t (fit_pow.2 h)⟩
    · intro h; cases h
  have hrf : (lim (powR a.natAbs m).1).length ≤ 1024 := by
    unfold powR
    split
    · assumption
    · show (lim 0).length ≤ 1024; rw [lim_zero]; decide
  have hodd : (((m : Int).tmod 2) == 1) = decide (m % 2 = 1) := by
    rw [show (m : Int).tmod 2 = ((m % 2 : Nat) : Int) from rfl, Bool.eq_iff_iff, beq_iff_eq, decide_eq_true_iff]; omega
  by_cases hs : a < 0
  · skip
    refine AOps.nil ?_
    refine ARun.seq ?_
    refine ARun.drawnP 16 (fun q => (powR a.natAbs m).2 ≠ 0 ∧ q = failW (powR a.natAbs m).2) mixC rfl rfl (by kernel_rfl) (fun _ _ h => by obtain ⟨h1, rfl⟩ := h; obtain ⟨h3, h4⟩ := hre h1; exact ⟨_, _, .same _, rfl, by rw [h3, h4]; rfl⟩) ?_
    refine .op rfl (q_fldS rfl rfl rfl (by decide)) ?_
    refine .op rfl (q_load rfl rfl rfl rfl) ?_
    refine .op rfl (OpQ.cast (q_move rfl) (congrArg D.bool (decide_eq_true hs))) ?_
    refine .op rfl (q_load rfl rfl rfl rfl) ?_
    refine .op rfl (q_rem rfl rfl (by decide) rfl) ?_
    refine .op rfl (q_intB (b := decide (m % 2 = 1)) rfl rfl rfl hodd) ?_
    refine .op rfl (q_pick rfl rfl rfl rfl) ?_
    refine .op rfl (q_fldS rfl rfl rfl (by decide)) ?_
    refine .op rfl (q_load rfl rfl rfl rfl) ?_
    refine .op rfl (q_load rfl rfl rfl rfl) ?_
    refine .op rfl (q_call rfl rfl (pc_nat_Pow a.natAbs m ha (by omega))) ?_
    refine .op rfl (q_extract rfl rfl) ?_
    refine .op rfl (q_extract rfl rfl) ?_
    refine .opP rfl (g_call rfl rfl ((pc_w_must (powR a.natAbs m).1 (powR a.natAbs m).2).mono fun o ho => ho.imp id (fun ⟨x, y⟩ => ⟨_, ⟨x, rfl⟩, y⟩))) ?_
    refine .op rfl (q_call rfl rfl (pc_w_signed (decide (m % 2 = 1)) (powR a.natAbs m).1)) ?_
    refine .op rfl (q_call rfl rfl (pc_w_own' _ (by rw [sgnd_abs]; omega))) ?_
    refine .nil (fun hG => ?_)
    refine y_new rfl (n_storeN rfl rfl rfl rfl rfl rfl rfl rfl (Nat.le_of_ble_eq_true rfl) rfl) ?_
    refine AOps.nil ?_
    refine ARun.ret ?_
    refine ⟨_, _, _, ResR.cellA rfl rfl rfl rfl rfl rfl .nil, .cons (.same _) .nil, rfl, ?_⟩
    obtain ⟨o1, o2⟩ := hro hG.2
    rw [decide_eq_true hs, Bool.true_and] at hsp
    rw [o2, o1, hsp]; rfl
  · skip
    refine AOps.nil ?_
    refine ARun.seq ?_
    refine ARun.drawnP 16 (fun q => (powR a.natAbs m).2 ≠ 0 ∧ q = failW (powR a.natAbs m).2) mixC rfl rfl (by kernel_rfl) (fun _ _ h => by obtain ⟨h1, rfl⟩ := h; obtain ⟨h3, h4⟩ := hre h1; exact ⟨_, _, .same _, rfl, by rw [h3, h4]; rfl⟩) ?_
    refine .op rfl (q_fldS rfl rfl rfl (by decide)) ?_
    refine .op rfl (q_load rfl rfl rfl rfl) ?_
    refine .op rfl (OpQ.cast (q_move rfl) (congrArg D.bool (decide_eq_false hs))) ?_
    refine .skip rfl ?_
    refine .skip rfl ?_
    refine .skip rfl ?_
    refine .op rfl (q_pick rfl rfl rfl rfl) ?_
    refine .op rfl (q_fldS rfl rfl rfl (by decide)) ?_
    refine .op rfl (q_load rfl rfl rfl rfl) ?_
    refine .op rfl (q_load rfl rfl rfl rfl) ?_
    refine .op rfl (q_call rfl rfl (pc_nat_Pow a.natAbs m ha (by omega))) ?_
    refine .op rfl (q_extract rfl rfl) ?_
    refine .op rfl (q_extract rfl rfl) ?_
    refine .opP rfl (g_call rfl rfl ((pc_w_must (powR a.natAbs m).1 (powR a.natAbs m).2).mono fun o ho => ho.imp id (fun ⟨x, y⟩ => ⟨_, ⟨x, rfl⟩, y⟩))) ?_
    refine .op rfl (q_call rfl rfl (pc_w_signed false (powR a.natAbs m).1)) ?_
    refine .op rfl (q_call rfl rfl (pc_w_own' _ (by rw [sgnd_abs]; omega))) ?_
    refine .nil (fun hG => ?_)
    refine y_new rfl (n_storeN rfl rfl rfl rfl rfl rfl rfl rfl (Nat.le_of_ble_eq_true rfl) rfl) ?_
    refine AOps.nil ?_
    refine ARun.ret ?_
    refine ⟨_, _, _, ResR.cellA rfl rfl rfl rfl rfl rfl .nil, .cons (.same _) .nil, rfl, ?_⟩
    obtain ⟨o1, o2⟩ := hro hG.2
    rw [decide_eq_false hs, Bool.false_and] at hsp
    rw [o2, o1, hsp]; rfl
theorem pc_w_Pow (d : Bool × List Nat) (hd : U32 d.2) (n : Int) (hn : n ≤ 9223372036854775807) : PC C n_whole_Pow [intA d.1 d.2, .int .i64 n] (fun o => o = .ret (.tup [intD (resZ ([d].all okI) (powO (valI d) n)).1, .int .i64 (resZ ([d].all okI) (powO (valI d) n)).2])) := by
  refine PC.run fn_whole_Pow en_whole_Pow rfl nt_whole_Pow rfl (rs := [.cell 4 25, .tmp 5]) (by rw [rs_whole_Pow]) (by simp only [List.length_cons, List.length_nil, Nat.reduceAdd, Nat.reduceSub, List.replicate_succ, List.replicate_zero, List.cons_append, List.nil_append]; exact rfl) ?_
  refine ARun.seq ?_
  refine ARun.region ?_
  refine y_op rfl (q_boxF rfl rfl rfl rfl) ?_
  refine y_op rfl (q_boxF rfl rfl rfl rfl) ?_
  refine y_new rfl (n_alloc rfl rfl rfl rfl) ?_
  refine y_op rfl (q_assign rfl) ?_
  refine AOps.nil ?_
  refine ARun.seq ?_
  refine ARun.region ?_
  refine y_op rfl (q_mkFunc rfl) ?_
  refine y_op rfl (q_loadAgg rfl rfl rfl rfl rfl) ?_
  refine y_op rfl (q_buildF rfl rfl rfl rfl rfl rfl rfl rfl rfl rfl rfl (by decide) (by decide) rfl) ?_
  refine y_op rfl (q_call rfl rfl (pc_w_compute [d] 1 rfl n_whole_Pow_1 [.sptr [.int .i64 n], .sptr [.bool d.1, sln .u32 d.2]] rfl (powO (valI d) n) (fun h => by obtain ⟨x, rfl, f1⟩ := okI_int hd (by simpa using h); rw [valI_int]; exact pc_w_Pow_1 x f1 n hn))) ?_
  refine y_op rfl (q_extract rfl rfl) ?_
  refine y_op rfl (q_extract rfl rfl) ?_
  refine y_new rfl (n_storeN rfl rfl rfl rfl rfl rfl rfl rfl (Nat.le_of_ble_eq_true rfl) rfl) ?_
  refine y_op rfl (q_assign rfl) ?_
  refine AOps.nil ?_
  refine ARun.ret ?_
  refine ⟨_, _, _, ResR.cellA rfl rfl rfl rfl rfl rfl (.tmp rfl .nil), .cons (.same _) (.cons (.same _) .nil), rfl, ?_⟩
  rfl
end Go.V
/- FERMAT's LITTLE THEOREM, and the seven primes: plain Lean. -/
namespace Go.V
def bino : Nat → Nat → Nat
  | _, 0 => 1
  | 0, _ + 1 => 0
  | n + 1, k + 1 => bino n k + bino n (k + 1)
theorem ch_zero (n : Nat) : bino n 0 = 1 := by cases n <;> rfl
theorem ch_gt : ∀ {n k : Nat}, n < k → bino n k = 0
  | 0, k + 1, _ => rfl
  | n + 1, k + 1, h => by rw [bino, ch_gt (by omega), ch_gt (by omega)]
theorem ch_self : ∀ n : Nat, bino n n = 1
  | 0 => rfl
  | n + 1 => by rw [bino, ch_self n, ch_gt (by omega)]
theorem ch_mul : ∀ n k : Nat, (k + 1) * bino (n + 1) (k + 1) = (n + 1) * bino n k
  | 0, 0 => rfl
  | 0, k + 1 => by rw [show bino (0 + 1) (k + 1 + 1) = 0 from rfl, show bino 0 (k + 1) = 0 from rfl, Nat.mul_zero, Nat.mul_zero]
  | n + 1, 0 => by
    have h := ch_mul n 0
    rw [ch_zero] at h ⊢
    rw [show bino (n + 1 + 1) (0 + 1) = bino (n + 1) 0 + bino (n + 1) (0 + 1) from rfl, ch_zero]
    omega
  | n + 1, k + 1 => by
    have h1 := ch_mul n k
    have h2 := ch_mul n (k + 1)
    rw [show bino (n + 1 + 1) (k + 1 + 1) = bino (n + 1) (k + 1) + bino (n + 1) (k + 1 + 1) from rfl, Nat.mul_add, h2]
    have h3 : (k + 1 + 1) * bino (n + 1) (k + 1) = (k + 1) * bino (n + 1) (k + 1) + bino (n + 1) (k + 1) := by rw [Nat.add_mul (k + 1) 1, Nat.one_mul]
    have h4 : (n + 1 + 1) * bino (n + 1) (k + 1) = (n + 1) * bino (n + 1) (k + 1) + bino (n + 1) (k + 1) := by rw [Nat.add_mul (n + 1) 1, Nat.one_mul]
    have h5 : (n + 1) * bino (n + 1) (k + 1) = (n + 1) * bino n k + (n + 1) * bino n (k + 1) := by rw [show bino (n + 1) (k + 1) = bino n k + bino n (k + 1) from rfl, Nat.mul_add]
    omega
def bsum (n a : Nat) : Nat → Nat
  | 0 => 0
  | k + 1 => bsum n a k + bino n k * a ^ k
theorem bs_step (n a : Nat) : ∀ k : Nat, bsum (n + 1) a (k + 1) = bsum n a (k + 1) + a * bsum n a k
  | 0 => by simp [bsum, ch_zero]
  | k + 1 => by
    have h := bs_step n a k
    rw [bsum, h, show bsum n a (k + 1 + 1) = bsum n a (k + 1) + bino n (k + 1) * a ^ (k + 1) from rfl, show bino (n + 1) (k + 1) = bino n k + bino n (k + 1) from rfl, Nat.add_mul]
    have h2 : a * bsum n a (k + 1) = a * bsum n a k + bino n k * a ^ (k + 1) := by
      rw [show bsum n a (k + 1) = bsum n a k + bino n k * a ^ k from rfl, Nat.mul_add, Nat.pow_succ]
      congr 1
      rw [← Nat.mul_assoc, Nat.mul_comm a (bino n k), Nat.mul_assoc, Nat.mul_comm a]
    omega
theorem pow_bs (a : Nat) : ∀ n : Nat, (a + 1) ^ n = bsum n a (n + 1)
  | 0 => by simp [bsum, ch_zero]
  | n + 1 => by
    rw [Nat.pow_succ, pow_bs a n, bs_step, show bsum n a (n + 1 + 1) = bsum n a (n + 1) + bino n (n + 1) * a ^ (n + 1) from rfl, ch_gt (Nat.lt_succ_self n), Nat.zero_mul, Nat.add_zero, Nat.mul_add, Nat.mul_one, Nat.mul_comm a]
    omega
/-- No number below it has a divisor in common with it. -/
def Prim (p : Nat) : Prop := 1 < p ∧ ∀ k, 0 < k → k < p → Nat.gcd p k = 1
theorem Prim.ch {p : Nat} (hp : Prim p) {k : Nat} (h0 : 0 < k) (h1 : k < p) : bino p k % p = 0 := by
  obtain ⟨n, rfl⟩ : ∃ n, p = n + 1 := ⟨p - 1, by omega⟩
  obtain ⟨m, rfl⟩ : ∃ m, k = m + 1 := ⟨k - 1, by omega⟩
  have h := ch_mul n m
  have hd : (n + 1) ∣ (m + 1) * bino (n + 1) (m + 1) := ⟨_, h⟩
  exact Nat.mod_eq_zero_of_dvd (Nat.Coprime.dvd_of_dvd_mul_left (hp.2 (m + 1) h0 h1) hd)
theorem Prim.bs {p : Nat} (hp : Prim p) (a : Nat) : ∀ k : Nat, k + 1 ≤ p → bsum p a (k + 1) % p = 1
  | 0, _ => by rw [Go.V.bsum, ch_zero]; simp [Go.V.bsum]; exact Nat.mod_eq_of_lt hp.1
  | k + 1, h => by
    rw [Go.V.bsum, Nat.add_mod, hp.bs a k (by omega), Nat.mul_mod, hp.ch (by omega) (by omega), Nat.zero_mul, Nat.zero_mod, Nat.add_zero]
    exact Nat.mod_eq_of_lt hp.1
theorem Prim.succ {p : Nat} (hp : Prim p) (a : Nat) : (a + 1) ^ p % p = (a ^ p + 1) % p := by
  obtain ⟨n, rfl⟩ : ∃ n, p = n + 1 := ⟨p - 1, by have := hp.1; omega⟩
  rw [pow_bs, Go.V.bsum, Nat.add_mod, hp.bs a n (Nat.le_refl _), ch_self, Nat.one_mul, Nat.add_comm, Nat.add_mod (a ^ (n + 1)) 1]
  rw [Nat.mod_eq_of_lt hp.1]
/-- Nothing with these digits behind its first ones divides it. -/
def noDiv (p : Nat) : Nat → Nat → Bool
  | 0, d => !(Nat.beq (p % d) 0)
  | f + 1, d => noDiv p f (2 * d) && noDiv p f (2 * d + 1)
theorem noDiv_ok {p : Nat} : ∀ {f d : Nat}, noDiv p f d = true → ∀ e, d * 2 ^ f ≤ e → e < (d + 1) * 2 ^ f → p % e ≠ 0
  | 0, d, h, e, h1, h2 => by
    have : e = d := by omega
    subst this
    intro h0
    rw [noDiv, h0] at h
    cases h
  | f + 1, d, h, e, h1, h2 => by
    rw [noDiv, Bool.and_eq_true] at h
    have hp : 2 ^ (f + 1) = 2 * 2 ^ f := by rw [Nat.pow_succ, Nat.mul_comm]
    have e1 : d * 2 ^ (f + 1) = 2 * d * 2 ^ f := by rw [hp, ← Nat.mul_assoc, Nat.mul_comm d 2]
    have e2 : (d + 1) * 2 ^ (f + 1) = (2 * d + 1 + 1) * 2 ^ f := by rw [hp, show 2 * d + 1 + 1 = 2 * (d + 1) by omega, ← Nat.mul_assoc, Nat.mul_comm (d + 1) 2]
    rcases Nat.lt_or_ge e ((2 * d + 1) * 2 ^ f) with h3 | h3
    · exact noDiv_ok h.1 e (by omega) h3
    · exact noDiv_ok h.2 e h3 (by omega)
def noDivs (p : Nat) : Nat → Bool
  | 0 => true
  | f + 1 => noDivs p f && noDiv p (f + 1) 1
theorem noDivs_ok {p : Nat} : ∀ {f : Nat}, noDivs p f = true → ∀ e, 2 ≤ e → e < 2 ^ (f + 1) → p % e ≠ 0
  | 0, _, e, h1, h2 => by have : 2 ^ (0 + 1) = 2 := rfl; omega
  | f + 1, h, e, h1, h2 => by
    rw [noDivs, Bool.and_eq_true] at h
    rcases Nat.lt_or_ge e (2 ^ (f + 1)) with h3 | h3
    · exact noDivs_ok h.1 e h1 h3
    · exact noDiv_ok h.2 e (by omega) (by rw [Nat.pow_succ] at h2; omega)
theorem Prim.of {p f : Nat} (h1 : 1 < p) (h : noDivs p f = true) (h2 : p < 2 ^ (f + 1) * 2 ^ (f + 1)) : Prim p := by
  refine ⟨h1, fun k hk hkp => ?_⟩
  have hg := Nat.gcd_dvd_left p k
  have hgk : Nat.gcd p k ≤ k := Nat.le_of_dvd hk (Nat.gcd_dvd_right p k)
  have hg0 : 0 < Nat.gcd p k := Nat.gcd_pos_of_pos_left k (by omega)
  generalize Nat.gcd p k = g at hg hgk hg0
  obtain ⟨e, he⟩ := hg
  apply Classical.byContradiction
  intro hne
  have hg2 : 2 ≤ g := by omega
  have he2 : 2 ≤ e := by
    rcases Nat.lt_or_ge e 2 with h3 | h3
    · have : e = 0 ∨ e = 1 := by omega
      rcases this with rfl | rfl
      · omega
      · omega
    · exact h3
  rcases Nat.lt_or_ge g (2 ^ (f + 1)) with h3 | h3
  · exact noDivs_ok h g hg2 h3 (by rw [he]; exact Nat.mul_mod_right g e)
  · rcases Nat.lt_or_ge e (2 ^ (f + 1)) with h4 | h4
    · exact noDivs_ok h e he2 h4 (by rw [he]; exact Nat.mul_mod_left g e)
    · have := Nat.mul_le_mul h3 h4
      omega
theorem emodPow (a m : Int) : ∀ n : Nat, a ^ n % m = (a % m) ^ n % m
  | 0 => by rw [Int.pow_zero, Int.pow_zero]
  | n + 1 => by rw [Int.pow_succ, Int.pow_succ, Int.mul_emod, emodPow a m n, Int.mul_emod ((a % m) ^ n), Int.emod_emod]
end Go.V
set_option maxHeartbeats 4000000
set_option maxRecDepth 100000
set_option synthInstance.maxSize 100000
set_option synthInstance.maxHeartbeats 2000000
namespace Go.V
open Go.RowKit Go.Proofs
theorem natMul_ok {a b : Nat} (ha : (lim a).length ≤ 1024) (hb : (lim b).length ≤ 1024) (h : (lim (a * b)).length ≤ 1024) : PC C n_nat_Mul [numD a, numD b] (fun o => o = .ret (.tup [numD (a * b), .int .i64 0])) :=
  (pc_nat_Mul (lim a) (lim b) (U32_lim _) (U32_lim _)).mono fun o ho => by
    rw [ho, resN_ok ha hb, val_lim, val_lim]
    simp only [if_pos h]
theorem natDiv_ok {a b : Nat} (ha : (lim a).length ≤ 1024) (hb : (lim b).length ≤ 1024) (h0 : 0 < b) : PC C n_nat_Div [numD a, numD b] (fun o => o = .ret (.tup [numD (a / b), numD (a % b), .int .i64 0])) :=
  (pc_nat_Div (lim a) (lim b) (U32_lim _) (U32_lim _)).mono fun o ho => by
    have : (lim b).length ≠ 0 := by have := ln_pos.2 (show b ≠ 0 by omega); omega
    rw [ho]
    unfold resD
    rw [okB_lim ha, okB_lim hb, val_lim, val_lim]
    simp only [Bool.and_self, cond_true, if_neg this]
theorem pc_w_modular (a b m : Nat) (hm : (lim m).length ≤ 1024) (ha : a < m) (hb : b < m) : PC C n_whole_modular [numD a, numD b, numD m] (fun o => o = .ret (numD ((a + b) % m))) := by
  have la : (lim a).length ≤ 1024 := Nat.le_trans (ln_mono (Nat.le_of_lt ha)) hm
  have lb : (lim b).length ≤ 1024 := Nat.le_trans (ln_mono (Nat.le_of_lt hb)) hm
  have lr : (lim (m - a)).length ≤ 1024 := Nat.le_trans (ln_mono (Nat.sub_le _ _)) hm
  refine PC.run fn_whole_modular en_whole_modular rfl nt_whole_modular rfl (rs := [.tmp 6]) (by rw [rs_whole_modular]) (by simp only [List.length_cons, List.length_nil, Nat.reduceAdd, Nat.reduceSub, List.replicate_succ, List.replicate_zero, List.cons_append, List.nil_append]; exact rfl) ?_
  refine ARun.seq ?_
  refine ARun.region ?_
  refine y_op rfl (q_assign rfl) ?_
  refine AOps.nil ?_
  refine ARun.seq ?_
  refine ARun.region ?_
  refine y_op rfl (q_move rfl) ?_
  refine y_op rfl (q_move rfl) ?_
  refine y_op rfl (q_call rfl rfl (natSub_ok hm la (Nat.le_of_lt ha))) ?_
  refine y_op rfl (q_extract rfl rfl) ?_
  refine y_op rfl (q_extract rfl rfl) ?_
  refine y_op rfl (q_call rfl rfl (pc_w_must0 (m - a))) ?_
  refine y_op rfl (q_assign rfl) ?_
  refine AOps.nil ?_
  refine ARun.seq ?_
  refine ARun.seq ?_
  refine ARun.region ?_
  refine y_op rfl (q_move rfl) ?_
  refine y_op rfl (q_move rfl) ?_
  refine y_op rfl (q_call rfl rfl (pc_w_order b (m - a) lb lr)) ?_
  refine y_op rfl (q_int rfl rfl rfl) ?_
  refine AOps.nil ?_
  refine ARun.ite rfl (fun h => ?_) (fun h => ?_)
  · skip
    have h : m - a ≤ b := by unfold cmpI at h; split at h <;> omega
    have e : (a + b) % m = b - (m - a) := by
      rw [Nat.mod_eq_sub_mod (by omega), Nat.mod_eq_of_lt (by omega)]; omega
    refine ARun.seq ?_
    refine ARun.region ?_
    refine y_op rfl (q_move rfl) ?_
    refine y_op rfl (q_move rfl) ?_
    refine y_op rfl (q_call rfl rfl (natSub_ok lb lr h)) ?_
    refine y_op rfl (q_extract rfl rfl) ?_
    refine y_op rfl (q_extract rfl rfl) ?_
    refine y_op rfl (q_call rfl rfl (pc_w_must0 (b - (m - a)))) ?_
    refine y_op rfl (q_assign rfl) ?_
    refine AOps.nil ?_
    refine ARun.ret ?_
    refine ⟨_, _, _, .tmp rfl .nil, .cons (.same _) .nil, rfl, ?_⟩
    rw [e]; rfl
  · skip
    have h : b < m - a := by
      unfold cmpI at h
      split at h
      · assumption
      · split at h <;> omega
    have e : (a + b) % m = a + b := Nat.mod_eq_of_lt (by omega)
    refine ARun.skip ?_
    refine ARun.seq ?_
    refine ARun.region ?_
    refine y_op rfl (q_move rfl) ?_
    refine y_op rfl (q_move rfl) ?_
    refine y_op rfl (q_call rfl rfl (natAdd_ok la lb (Nat.le_trans (ln_mono (show a + b ≤ m by omega)) hm))) ?_
    refine y_op rfl (q_extract rfl rfl) ?_
    refine y_op rfl (q_extract rfl rfl) ?_
    refine y_op rfl (q_call rfl rfl (pc_w_must0 (a + b))) ?_
    refine y_op rfl (q_assign rfl) ?_
    refine AOps.nil ?_
    refine ARun.ret ?_
    refine ⟨_, _, _, .tmp rfl .nil, .cons (.same _) .nil, rfl, ?_⟩
    rw [e]; rfl
theorem bit_dig (b i : Nat) : dig b (i / 32) / 2 ^ (i % 32) % 2 = b / 2 ^ i % 2 := by
  have h1 : b / 2 ^ i = b / B ^ (i / 32) / 2 ^ (i % 32) := div_split b i
  rw [h1, dig]
  have hr : i % 32 < 32 := Nat.mod_lt _ (by decide)
  generalize b / B ^ (i / 32) = x
  generalize i % 32 = r at hr
  have hB : B = 2 ^ r * 2 ^ (32 - r) := by rw [← Nat.pow_add, show r + (32 - r) = 32 by omega]; rfl
  rw [hB, Nat.mod_mul_right_div_self]
  exact Nat.mod_mod_of_dvd _ (by
    obtain ⟨k, hk⟩ : ∃ k, 32 - r = k + 1 := ⟨31 - r, by omega⟩
    rw [hk, Nat.pow_succ]; exact Nat.dvd_mul_left 2 _)
theorem half_step (b j : Nat) : b / 2 ^ j = 2 * (b / 2 ^ (j + 1)) + b / 2 ^ j % 2 := by
  rw [Nat.pow_succ, ← Nat.div_div_eq_div_mul]; omega
theorem pc_w_times (a b m : Nat) (hm : (lim m).length ≤ 1024) (ha : a < m) (hb : b < m) : PC C n_whole_times [numD a, numD b, numD m] (fun o => o = .ret (numD (a * b % m))) := by
  have la : (lim a).length ≤ 1024 := Nat.le_trans (ln_mono (Nat.le_of_lt ha)) hm
  have lb : (lim b).length ≤ 1024 := Nat.le_trans (ln_mono (Nat.le_of_lt hb)) hm
  have hm0 : 0 < m := by omega
  refine PC.run fn_whole_times en_whole_times rfl nt_whole_times rfl (rs := [.tmp 6]) (by rw [rs_whole_times]) (by simp only [List.length_cons, List.length_nil, Nat.reduceAdd, Nat.reduceSub, List.replicate_succ, List.replicate_zero, List.cons_append, List.nil_append]; exact rfl) ?_
  refine ARun.seq ?_
  refine ARun.region ?_
  refine y_op rfl (q_assign rfl) ?_
  refine AOps.nil ?_
  refine ARun.seq ?_
  refine ARun.seq ?_
  refine ARun.region ?_
  refine y_op rfl (q_move rfl) ?_
  refine y_op rfl (q_lenSl rfl rfl) ?_
  refine y_op rfl (q_move rfl) ?_
  refine y_op rfl (q_lenSl rfl rfl) ?_
  refine y_op rfl (q_add rfl rfl (nadd_i64 (by omega))) ?_
  refine y_op rfl (q_int rfl rfl rfl) ?_
  refine AOps.nil ?_
  refine ARun.ite rfl (fun h => ?_) (fun h => ?_)
  · skip
    have lab : (lim (a * b)).length ≤ 1024 := by have := ln_mul a b; omega
    refine ARun.seq ?_
    refine ARun.region ?_
    refine y_op rfl (q_move rfl) ?_
    refine y_op rfl (q_move rfl) ?_
    refine y_op rfl (q_call rfl rfl (natMul_ok la lb lab)) ?_
    refine y_op rfl (q_extract rfl rfl) ?_
    refine y_op rfl (q_extract rfl rfl) ?_
    refine y_op rfl (q_call rfl rfl (pc_w_must0 (a * b))) ?_
    refine y_op rfl (q_move rfl) ?_
    refine y_op rfl (q_call rfl rfl (natDiv_ok lab hm hm0)) ?_
    refine y_op rfl (q_move rfl) ?_
    refine y_op rfl (q_extract rfl rfl) ?_
    refine y_op rfl (q_extract rfl rfl) ?_
    refine y_op rfl (q_extract rfl rfl) ?_
    refine y_op rfl (q_assign rfl) ?_
    refine y_op rfl (q_assign rfl) ?_
    refine y_op rfl (q_assign rfl) ?_
    refine AOps.nil ?_
    refine ARun.seq ?_
    refine ARun.region ?_
    refine y_op rfl (q_move rfl) ?_
    refine y_op rfl (q_int rfl rfl rfl) ?_
    refine y_op rfl (q_move rfl) ?_
    refine y_gop rfl (g_call rfl rfl (PC.gp (pc_w_need _ 0))) (fun hg => ?_) (fun q hq => by obtain ⟨hq, rfl⟩ := hq; cases hq)
    refine AOps.nil ?_
    refine ARun.seq ?_
    refine ARun.region ?_
    refine y_op rfl (q_move rfl) ?_
    refine y_op rfl (q_assign rfl) ?_
    refine AOps.nil ?_
    refine ARun.ret ?_
    refine ⟨_, _, _, .tmp rfl .nil, .cons (.same _) .nil, rfl, ?_⟩
    rfl
  · skip
    refine ARun.skip ?_
    refine ARun.seq ?_
    refine ARun.region ?_
    refine y_op rfl (q_assign rfl) ?_
    refine AOps.nil ?_
    refine ARun.seq ?_
    refine ARun.seq ?_
    refine ARun.region ?_
    refine y_op rfl (q_move rfl) ?_
    refine y_op rfl (q_lenSl rfl rfl) ?_
    refine y_op rfl (q_mul rfl rfl (nmul_i64 (m := 32) (by omega))) ?_
    refine y_op rfl (q_sub rfl rfl (IntWalk.i64_in _ (by omega))) ?_
    refine y_op rfl (q_assign rfl) ?_
    refine AOps.nil ?_
    refine ARun.block ?_
    refine ARun.nil0 10 rfl ?_
    rw [← numD_zero]
    refine ARun.loopI (S := Nat × Nat) (fun σ : Nat × Nat => [(39, .any), (40, .any), (41, .any), (42, .any), (43, .any), (44, .any), (45, .any), (46, .any), (47, .any), (48, .any), (49, .any), (50, .any), (51, .any), (52, .any), (53, .any), (54, .any), (55, .any), (56, .any), (57, .any), (58, .any), (59, .any), (60, .any), (10, numD σ.2), (11, .int .i64 ((σ.1 : Int) - 1))]) (fun σ : Nat × Nat => []) (fun σ : Nat × Nat => σ.1 ≤ 32 * (lim b).length ∧ σ.2 = b / 2 ^ σ.1 * a % m) (fun σ : Nat × Nat => σ.1) ((32 * (lim b).length, 0)) ?_ ?_ ?_ ?_
    · exact ⟨Nat.le_refl _, by dsimp only; rw [Nat.div_eq_of_lt (by rw [← B_pow]; exact ln_lt b), Nat.zero_mul, Nat.zero_mod]⟩
    · (repeat' first | exact envLe_nil | apply envLe_any | apply envLe_same)
    · rfl
    rintro ⟨k, out⟩ hinv ih
    dsimp only at hinv ih ⊢
    obtain ⟨hk, rfl⟩ := hinv
    refine ARun.seq ?_
    refine ARun.seq ?_
    refine ARun.region ?_
    refine y_op rfl (q_move rfl) ?_
    refine y_op rfl (q_int rfl rfl rfl) ?_
    refine AOps.nil ?_
    refine ARun.ite rfl (fun h1 => ?_) (fun h1 => ?_)
    · skip
      obtain ⟨j, rfl⟩ : ∃ j, k = j + 1 := ⟨k - 1, by omega⟩
      rw [show (((j + 1 : Nat) : Int) - 1) = (j : Int) by omega]
      have hr := Nat.mod_lt (b / 2 ^ (j + 1) * a) hm0
      have hd := dig_lt b (j / 32)
      have hs := half_step b j
      have e1 : (b / 2 ^ (j + 1) * a % m + b / 2 ^ (j + 1) * a % m) % m = 2 * (b / 2 ^ (j + 1)) * a % m := by
        rw [← Nat.add_mod, ← Nat.two_mul, Nat.mul_assoc]
      have hdl : dig b (j / 32) / 2 ^ (j % 32) < 4294967296 := Nat.lt_of_le_of_lt (Nat.div_le_self _ _) hd
      refine ARun.skip ?_
      refine ARun.seq ?_
      refine ARun.block ?_
      refine ARun.seq ?_
      refine ARun.region ?_
      refine y_op rfl (q_move rfl) ?_
      refine y_op rfl (q_move rfl) ?_
      refine y_op rfl (q_move rfl) ?_
      refine y_op rfl (q_call rfl rfl ((pc_w_modular _ _ m hm hr hr).mono fun o ho => by rw [ho, e1])) ?_
      refine y_op rfl (q_assign rfl) ?_
      refine AOps.nil ?_
      refine ARun.seq ?_
      refine ARun.region ?_
      refine y_op rfl (q_move rfl) ?_
      refine y_op rfl (q_move rfl) ?_
      refine y_op rfl (q_quo rfl rfl (by omega) (nquo_i64 (n := 32) rfl (by omega))) ?_
      refine y_op rfl (q_idxSl rfl rfl rfl rfl (by omega) (by omega) (nts_ne (by omega)) (drop_nat (i := j / 32) rfl)) ?_
      refine y_op rfl (q_load rfl rfl rfl (lim_load (by omega))) ?_
      refine y_op rfl (q_move rfl) ?_
      refine y_op rfl (q_rem rfl rfl (by omega) (nrem (n := 32) rfl)) ?_
      refine y_op rfl (q_shr rfl rfl (by omega) (nshr rfl (by show j % 32 ≤ 32; omega))) ?_
      refine y_op rfl (q_andR rfl rfl (nand1_u32 hdl)) ?_
      refine y_op rfl (q_int rfl rfl rfl) ?_
      refine AOps.nil ?_
      refine ARun.cond rfl (fun h2 => ?_) (fun h2 => ?_)
      · skip
        have h2 : b / 2 ^ j % 2 = 1 := by
          have : ((dig b (j / 32) / 2 ^ (j % 32) % 2 : Nat) : Int) = 1 := by simpa using h2
          rw [bit_dig] at this
          omega
        have e2 : (2 * (b / 2 ^ (j + 1)) * a % m + a) % m = b / 2 ^ j * a % m := by
          rw [hs, h2, Nat.add_mul, Nat.one_mul, Nat.mod_add_mod]
        refine ARun.region ?_
        refine y_op rfl (q_move rfl) ?_
        refine y_op rfl (q_move rfl) ?_
        refine y_op rfl (q_move rfl) ?_
        refine y_op rfl (q_call rfl rfl ((pc_w_modular (2 * (b / 2 ^ (j + 1)) * a % m) a m hm (Nat.mod_lt _ hm0) ha).mono fun o ho => by rw [ho, e2])) ?_
        refine y_op rfl (q_assign rfl) ?_
        refine AOps.nil ?_
        refine ARun.inBlock ?_
        refine ARun.region ?_
        refine y_op rfl (q_move rfl) ?_
        refine y_op rfl (q_sub rfl rfl (IntWalk.i64_in _ (by omega))) ?_
        refine y_op rfl (q_assign rfl) ?_
        refine AOps.nil ?_
        refine ARun.again (ih ((j, b / 2 ^ j * a % m)) ?_ ?_) ?_ ?_
        · exact ⟨by dsimp only; omega, rfl⟩
        · exact Nat.lt_succ_self _
        · (repeat' first | exact envLe_nil | apply envLe_any | apply envLe_same)
        · rfl
      · skip
        have h2 : b / 2 ^ j % 2 = 0 := by
          have : ¬ ((dig b (j / 32) / 2 ^ (j % 32) % 2 : Nat) : Int) = 1 := by simpa using h2
          rw [bit_dig] at this
          omega
        have e2 : 2 * (b / 2 ^ (j + 1)) * a % m = b / 2 ^ j * a % m := by
          have hs' : b / 2 ^ j = 2 * (b / 2 ^ (j + 1)) := by rw [h2] at hs; exact hs
          rw [hs']
        rw [e2]
        refine ARun.skip ?_
        refine ARun.inBlock ?_
        refine ARun.region ?_
        refine y_op rfl (q_move rfl) ?_
        refine y_op rfl (q_sub rfl rfl (IntWalk.i64_in _ (by omega))) ?_
        refine y_op rfl (q_assign rfl) ?_
        refine AOps.nil ?_
        refine ARun.again (ih ((j, b / 2 ^ j * a % m)) ?_ ?_) ?_ ?_
        · exact ⟨by dsimp only; omega, rfl⟩
        · exact Nat.lt_succ_self _
        · (repeat' first | exact envLe_nil | apply envLe_any | apply envLe_same)
        · rfl
    · skip
      have hk0 : k = 0 := by omega
      subst hk0
      refine ARun.exit rfl ?_
      refine ARun.seq ?_
      refine ARun.region ?_
      refine y_op rfl (q_move rfl) ?_
      refine y_op rfl (q_assign rfl) ?_
      refine AOps.nil ?_
      refine ARun.ret ?_
      refine ⟨_, _, _, .tmp rfl .nil, .cons (.same _) .nil, rfl, ?_⟩
      rw [Nat.pow_zero, Nat.div_one, Nat.mul_comm]; rfl
/-- One step of the power by a modulus. -/
theorem hc_step (bit : Bool) (x m y : Nat) (o0 : Option AObj) (hm : (lim m).length ≤ 1024) (hx : x < m) (hy : y < m) : HC C n_whole_ModPow_1_1 [o0, some ⟨[numD x], t_api_Nat, 1, true, none⟩] [.bool bit, .ptr 1 0, capZ (m : Int), capZ (y : Int)] (fun o H' => o = .ret (.tup []) ∧ H' = [o0, some ⟨[numD (bif bit then x * x * y % m else x * x % m)], t_api_Nat, 1, true, none⟩]) := by
  have hm0 : 0 < m := by omega
  have hx2 := Nat.mod_lt (x * x) hm0
  have e1 : x * x % m * y % m = x * x * y % m := by rw [Nat.mul_mod, Nat.mod_mod, ← Nat.mul_mod]
  refine HC.run fn_whole_ModPow_1_1 en_whole_ModPow_1_1 rfl nt_whole_ModPow_1_1 (rs := []) (by rw [rs_whole_ModPow_1_1]) (by simp only [List.length_cons, List.length_nil, Nat.reduceAdd, Nat.reduceSub, List.replicate_succ, List.replicate_zero, List.cons_append, List.nil_append]; exact rfl) ?_
  refine ARun.seq ?_
  refine ARun.region ?_
  refine y_op rfl (q_loadP rfl rfl rfl rfl rfl) ?_
  refine y_op rfl (q_loadP rfl rfl rfl rfl rfl) ?_
  refine y_op rfl (q_fldS rfl rfl rfl (by decide)) ?_
  refine y_op rfl (q_load rfl rfl rfl rfl) ?_
  refine y_op rfl (q_call rfl rfl (pc_w_times x x m hm hx hx)) ?_
  refine y_new rfl (n_store1 rfl rfl rfl rfl rfl rfl (Nat.le_of_ble_eq_true rfl) rfl) ?_
  refine AOps.nil ?_
  refine ARun.seq ?_
  refine ARun.region ?_
  refine y_op rfl (q_move rfl) ?_
  refine AOps.nil ?_
  refine ARun.cond rfl (fun h => ?_) (fun h => ?_)
  · skip
    subst h
    refine ARun.region ?_
    refine y_op rfl (q_loadP rfl rfl rfl rfl rfl) ?_
    refine y_op rfl (q_fldS rfl rfl rfl (by decide)) ?_
    refine y_op rfl (q_load rfl rfl rfl rfl) ?_
    refine y_op rfl (q_fldS rfl rfl rfl (by decide)) ?_
    refine y_op rfl (q_load rfl rfl rfl rfl) ?_
    refine y_op rfl (q_call rfl rfl ((pc_w_times (x * x % m) y m hm hx2 hy).mono fun o ho => by rw [ho, e1])) ?_
    refine y_new rfl (n_store1 rfl rfl rfl rfl rfl rfl (Nat.le_of_ble_eq_true rfl) rfl) ?_
    refine AOps.nil ?_
    refine ARun.nil ?_
    refine ⟨_, _, _, .nil, .nil, ?_⟩
    exact ⟨rfl, rfl⟩
  · skip
    subst h
    refine ARun.skip ?_
    refine ARun.nil ?_
    refine ⟨_, _, _, .nil, .nil, ?_⟩
    exact ⟨rfl, rfl⟩
def mpO (a n m : Int) : Int ⊕ Int := if m = 0 then .inr 8 else if m < 0 ∨ n < 0 then .inr 1 else .inl (a ^ n.toNat % m)
theorem pow_emod_step {y m x e1 e2 : Nat} {bit : Bool} (hx : x = y ^ e1 % m) (he : e2 = 2 * e1 + bit.toNat) : (bif bit then x * x * y % m else x * x % m) = y ^ e2 % m := by
  subst hx; subst he
  have h : y ^ e1 % m * (y ^ e1 % m) % m = y ^ (2 * e1) % m := by
    rw [← Nat.mul_mod, ← Nat.pow_add]; congr 2; omega
  cases bit with
  | false => exact h
  | true =>
    simp only [cond_true, Bool.toNat_true]
    rw [Nat.mul_mod, h, ← Nat.mul_mod, Nat.pow_succ]
theorem pc_w_ModPow_1 (a n m : Int) (ha : fitZ a) (hn : fitZ n) (hm : fitZ m) : PC C n_whole_ModPow_1 [capZ m, capZ n, capZ a] (fun o => o = outZ (mpO a n m)) := by
  refine PC.run fn_whole_ModPow_1 en_whole_ModPow_1 rfl nt_whole_ModPow_1 rfl (rs := [.cell 3 25]) (by rw [rs_whole_ModPow_1]) (by simp only [List.length_cons, List.length_nil, Nat.reduceAdd, Nat.reduceSub, List.replicate_succ, List.replicate_zero, List.cons_append, List.nil_append]; exact rfl) ?_
  refine ARun.seq ?_
  refine ARun.region ?_
  refine y_new rfl (n_alloc rfl rfl rfl rfl) ?_
  refine AOps.nil ?_
  refine ARun.seq ?_
  refine ARun.region ?_
  refine y_op rfl (q_fldS rfl rfl rfl (by decide)) ?_
  refine y_op rfl (q_load rfl rfl rfl rfl) ?_
  refine y_op rfl (q_lenSl rfl rfl) ?_
  refine y_op rfl (q_intB (b := decide (m ≠ 0)) rfl rfl rfl len_pos_iff) ?_
  refine y_gop rfl (g_call rfl rfl (PC.gp (pc_w_need _ 8))) (fun hg => ?_) (fun q hq => by obtain ⟨hq, rfl⟩ := hq; exact ⟨_, _, .same _, rfl, by have hq : m = 0 := (by simpa using hq); unfold mpO; rw [if_pos hq]; rfl⟩)
  have hm0 : m ≠ 0 := of_decide_eq_true hg
  refine AOps.nil ?_
  refine ARun.seq ?_
  refine ARun.region ?_
  refine y_op rfl (q_fldS rfl rfl rfl (by decide)) ?_
  refine y_op rfl (q_load rfl rfl rfl rfl) ?_
  refine y_op rfl (q_not rfl) ?_
  refine y_op rfl (q_move rfl) ?_
  refine AOps.bool 19 rfl (fun c1 => ?_) (fun c1 => ?_)
  · skip
    have c1 : ¬ m < 0 := by simpa using c1
    refine y_op rfl (q_fldS rfl rfl rfl (by decide)) ?_
    refine y_op rfl (q_load rfl rfl rfl rfl) ?_
    refine y_op rfl (q_not rfl) ?_
    refine y_op rfl (q_pick rfl rfl rfl rfl) ?_
    refine y_gop rfl (g_call rfl rfl (PC.gp (pc_w_need _ 1))) (fun hg2 => ?_) (fun q hq => by obtain ⟨hq, rfl⟩ := hq; exact ⟨_, _, .same _, rfl, by have hq : n < 0 := (by simpa using hq); unfold mpO; rw [if_neg hm0, if_pos (.inr hq)]; rfl⟩)
    have hn0 : ¬ n < 0 := by simpa using hg2
    have hmp : 0 < m := by omega
    have hO : mpO a n m = .inl (a ^ n.toNat % m) := by unfold mpO; rw [if_neg hm0, if_neg (by rintro (h | h) <;> omega)]
    rw [hO]
    obtain ⟨M, rfl⟩ : ∃ M : Nat, m = (M : Int) := ⟨m.toNat, by omega⟩
    have hM : (lim M).length ≤ 1024 := by have h := hm; unfold fitZ at h; rw [Int.natAbs_natCast] at h; exact h
    obtain ⟨y, hy⟩ : ∃ y : Nat, a % (M : Int) = (y : Int) := ⟨(a % (M : Int)).toNat, by have := Int.emod_nonneg a hm0; omega⟩
    have hyM : y < M := by have := Int.emod_lt_of_pos a hmp; omega
    have hM0 : 0 < M := by omega
    obtain ⟨q1, hd1⟩ := w_div3 (a := a) ha hm hmp
    rw [hy] at hd1
    obtain ⟨q2, hd2⟩ := w_div3 (a := 1) (lnZ_fit lnZ_1) hm hmp
    rw [show (1 : Int) % (M : Int) = ((1 % M : Nat) : Int) from rfl] at hd2
    have hx1 := Nat.mod_lt 1 hM0
    have hn' : (lim n.natAbs).length ≤ 1024 := hn
    refine AOps.nil ?_
    refine ARun.seq ?_
    refine ARun.drawnF (n := 12) (fun S : Nat → Bool => _) [(8, 4, 25, [.bool false, .nilsl], some (10, [.bool (decide (q1 < 0)), numD q1.natAbs])), (9, 5, 25, [.bool false, .nilsl], some (11, [.bool (decide ((y : Int) < 0)), numD (y : Int).natAbs]))] (fun _ => False) (sk := [(8, some 10), (9, some 11)]) mixC rfl rfl (by kernel_rfl) rfl (by kernel_rfl) rfl rfl (fun _ _ _ h => h.elim) ?_
    refine DChG.op rfl (fun _ => q_loadAgg rfl rfl rfl rfl rfl) (fun _ => rfl) rfl rfl ?_
    refine DChG.op rfl (fun _ => q_loadAgg rfl rfl rfl rfl rfl) (fun _ => rfl) rfl rfl ?_
    refine DChG.op rfl (fun _ => q_call rfl rfl (pc_w_kinds)) (fun _ => rfl) rfl rfl ?_
    refine DChG.op rfl (fun _ => q_lookupW (kt := t_int) (et := t_whole_kind) (by kernel_rfl) (by kernel_rfl) rfl rfl rfl rfl rfl (find_kind 3)) (fun _ => rfl) rfl rfl ?_
    refine DChG.op rfl (fun _ => q_call rfl rfl (hd1)) (fun _ => rfl) rfl rfl ?_
    refine DChG.op rfl (fun _ => q_move rfl) (fun _ => rfl) rfl rfl ?_
    refine DChG.op rfl (fun _ => q_extract rfl rfl) (fun _ => rfl) rfl rfl ?_
    refine DChG.op rfl (fun _ => q_extract rfl rfl) (fun _ => rfl) rfl rfl ?_
    refine .al rfl rfl rfl rfl (fun _ => rfl) rfl rfl rfl ?_
    refine .al rfl rfl rfl rfl (fun _ => rfl) rfl rfl rfl ?_
    refine .sp (j := 8) rfl rfl rfl rfl rfl rfl rfl (fun _ => rfl) rfl rfl rfl (by kernel_rfl) ?_
    refine .sp (j := 9) rfl rfl rfl rfl rfl rfl rfl (fun _ => rfl) rfl rfl rfl (by kernel_rfl) ?_
    refine .nil (fun hG => AOps.fixed (as' := [(8, 4, 25, [.bool (decide (q1 < 0)), numD q1.natAbs]), (9, 5, 25, [.bool (decide ((y : Int) < 0)), numD (y : Int).natAbs])]) rfl ?_)
    refine AOps.nil ?_
    refine ARun.seq ?_
    refine ARun.drawnF (n := 12) (fun S : Nat → Bool => _) [(8, 6, 25, [.bool false, .nilsl], some (10, [.bool (decide (q2 < 0)), numD q2.natAbs])), (9, 7, 25, [.bool false, .nilsl], some (11, [.bool (decide (((1 % M : Nat) : Int) < 0)), numD ((1 % M : Nat) : Int).natAbs]))] (fun _ => False) (sk := [(8, some 10), (9, some 11)]) mixC rfl rfl (by kernel_rfl) rfl (by kernel_rfl) rfl rfl (fun _ _ _ h => h.elim) ?_
    refine DChG.op rfl (fun _ => q_call rfl rfl (pc_w_FromInt 1 (by decide) (by decide))) (fun _ => rfl) rfl rfl ?_
    refine DChG.op rfl (fun _ => q_loadAgg rfl rfl rfl rfl rfl) (fun _ => rfl) rfl rfl ?_
    refine DChG.op rfl (fun _ => q_call rfl rfl (pc_w_kinds)) (fun _ => rfl) rfl rfl ?_
    refine DChG.op rfl (fun _ => q_lookupW (kt := t_int) (et := t_whole_kind) (by kernel_rfl) (by kernel_rfl) rfl rfl rfl rfl rfl (find_kind 3)) (fun _ => rfl) rfl rfl ?_
    refine DChG.op rfl (fun _ => q_call rfl rfl (hd2)) (fun _ => rfl) rfl rfl ?_
    refine DChG.op rfl (fun _ => q_move rfl) (fun _ => rfl) rfl rfl ?_
    refine DChG.op rfl (fun _ => q_extract rfl rfl) (fun _ => rfl) rfl rfl ?_
    refine DChG.op rfl (fun _ => q_extract rfl rfl) (fun _ => rfl) rfl rfl ?_
    refine .al rfl rfl rfl rfl (fun _ => rfl) rfl rfl rfl ?_
    refine .al rfl rfl rfl rfl (fun _ => rfl) rfl rfl rfl ?_
    refine .sp (j := 8) rfl rfl rfl rfl rfl rfl rfl (fun _ => rfl) rfl rfl rfl (by kernel_rfl) ?_
    refine .sp (j := 9) rfl rfl rfl rfl rfl rfl rfl (fun _ => rfl) rfl rfl rfl (by kernel_rfl) ?_
    refine .nil (fun hG => AOps.fixed (as' := [(8, 6, 25, [.bool (decide (q2 < 0)), numD q2.natAbs]), (9, 7, 25, [.bool (decide (((1 % M : Nat) : Int) < 0)), numD ((1 % M : Nat) : Int).natAbs])]) rfl ?_)
    refine AOps.nil ?_
    refine ARun.seq ?_
    refine ARun.region ?_
    refine y_op rfl (q_fldS rfl rfl rfl (by decide)) ?_
    refine y_op rfl (q_load rfl rfl rfl rfl) ?_
    refine y_new rfl (n_alloc rfl rfl rfl rfl) ?_
    refine y_new rfl (n_store1 rfl rfl rfl rfl rfl rfl (Nat.le_of_ble_eq_true rfl) rfl) ?_
    refine AOps.nil ?_
    refine ARun.seq ?_
    refine ARun.region ?_
    refine y_op rfl (q_mkFunc rfl) ?_
    refine y_op rfl (q_assign rfl) ?_
    refine AOps.nil ?_
    refine ARun.seq ?_
    refine ARun.seq ?_
    refine ARun.region ?_
    refine y_op rfl (q_fldS rfl rfl rfl (by decide)) ?_
    refine y_op rfl (q_load rfl rfl rfl rfl) ?_
    refine y_op rfl (q_lenSl rfl rfl) ?_
    refine y_op rfl (q_mul rfl rfl (nmul_i64 (m := 32) (by omega))) ?_
    refine y_op rfl (q_sub rfl rfl (IntWalk.i64_in _ (by omega))) ?_
    refine y_op rfl (q_assign rfl) ?_
    refine AOps.nil ?_
    refine ARun.block ?_
    refine ARun.loopI (S := Nat × Nat) (fun σ : Nat × Nat => [(49, .any), (50, .any), (51, .any), (52, .any), (53, .any), (54, .any), (55, .any), (56, .any), (57, .any), (58, .any), (59, .any), (60, .any), (61, .any), (62, .any), (63, .any), (64, .any), (65, .any), (10, .int .i64 ((σ.1 : Int) - 1))]) (fun σ : Nat × Nat => [cell0, some ⟨[numD σ.2], t_api_Nat, 1, true, none⟩]) (fun σ : Nat × Nat => σ.1 ≤ 32 * (lim n.natAbs).length ∧ σ.2 = y ^ (n.natAbs / 2 ^ σ.1) % M) (fun σ : Nat × Nat => σ.1) ((32 * (lim n.natAbs).length, 1 % M)) ?_ ?_ ?_ ?_
    · exact ⟨Nat.le_refl _, by dsimp only; rw [Nat.div_eq_of_lt (by rw [← B_pow]; exact ln_lt n.natAbs), Nat.pow_zero]⟩
    · (repeat' first | exact envLe_nil | apply envLe_any | apply envLe_same)
    · (rw [Int.natAbs_natCast]; rfl)
    rintro ⟨k, x⟩ hinv ih
    dsimp only at hinv ih ⊢
    obtain ⟨hk, hx⟩ := hinv
    have hxM : x < M := by rw [hx]; exact Nat.mod_lt _ hM0
    refine ARun.seq ?_
    refine ARun.seq ?_
    refine ARun.region ?_
    refine y_op rfl (q_move rfl) ?_
    refine y_op rfl (q_int rfl rfl rfl) ?_
    refine AOps.nil ?_
    refine ARun.ite rfl (fun h1 => ?_) (fun h1 => ?_)
    · skip
      obtain ⟨j, rfl⟩ : ∃ j, k = j + 1 := ⟨k - 1, by omega⟩
      rw [show (((j + 1 : Nat) : Int) - 1) = (j : Int) by omega]
      have hd := dig_lt n.natAbs (j / 32)
      have hdl : dig n.natAbs (j / 32) / 2 ^ (j % 32) < 4294967296 := Nat.lt_of_le_of_lt (Nat.div_le_self _ _) hd
      have hs := half_step n.natAbs j
      have hbit := bit_dig n.natAbs j
      have hbt : n.natAbs / 2 ^ j % 2 = (decide (n.natAbs / 2 ^ j % 2 = 1)).toNat := by rcases Nat.mod_two_eq_zero_or_one (n.natAbs / 2 ^ j) with h | h <;> rw [h] <;> rfl
      refine ARun.skip ?_
      refine ARun.seq ?_
      refine ARun.block ?_
      refine ARun.region ?_
      refine y_op rfl (q_move rfl) ?_
      refine y_op rfl (q_fldS rfl rfl rfl (by decide)) ?_
      refine y_op rfl (q_load rfl rfl rfl rfl) ?_
      refine y_op rfl (q_move rfl) ?_
      refine y_op rfl (q_quo rfl rfl (by omega) (nquo_i64 (n := 32) rfl (by omega))) ?_
      refine y_op rfl (q_idxSl rfl rfl rfl rfl (by omega) (by omega) (nts_ne (by omega)) (drop_nat (i := j / 32) rfl)) ?_
      refine y_op rfl (q_load rfl rfl rfl (lim_load (by omega))) ?_
      refine y_op rfl (q_move rfl) ?_
      refine y_op rfl (q_rem rfl rfl (by omega) (nrem (n := 32) rfl)) ?_
      refine y_op rfl (q_shr rfl rfl (by omega) (nshr rfl (by show j % 32 ≤ 32; omega))) ?_
      refine y_op rfl (q_andR rfl rfl (nand1_u32 hdl)) ?_
      refine y_op rfl (q_intB (b := decide (n.natAbs / 2 ^ j % 2 = 1)) rfl rfl rfl (by rw [hbit, Bool.eq_iff_iff, beq_iff_eq, decide_eq_true_iff]; omega)) ?_
      refine y_hcall rfl rfl rfl rfl (hc_step (decide (n.natAbs / 2 ^ j % 2 = 1)) x M y _ hM hxM hyM) (fun d1 H1 hR => ?_) (fun d1 H1 hR => by cases hR.1)
      obtain ⟨hR1, rfl⟩ := hR
      injection hR1 with hR1
      subst hR1
      refine AOps.nil ?_
      refine ARun.inBlock ?_
      refine ARun.region ?_
      refine y_op rfl (q_move rfl) ?_
      refine y_op rfl (q_sub rfl rfl (IntWalk.i64_in _ (by omega))) ?_
      refine y_op rfl (q_assign rfl) ?_
      refine AOps.nil ?_
      refine ARun.again (ih ((j, bif decide (n.natAbs / 2 ^ j % 2 = 1) then x * x * y % M else x * x % M)) ?_ ?_) ?_ ?_
      · exact ⟨by dsimp only; omega, pow_emod_step hx (by rw [← hbt]; exact hs)⟩
      · exact Nat.lt_succ_self _
      · (repeat' first | exact envLe_nil | apply envLe_any | apply envLe_same)
      · rfl
    · skip
      have hk0 : k = 0 := by omega
      subst hk0
      rw [Nat.pow_zero, Nat.div_one] at hx
      have he : a ^ n.toNat % (M : Int) = ((x : Nat) : Int) := by
        rw [emodPow, hy, ← Int.natCast_pow, ← Int.natCast_emod, hx, show n.toNat = n.natAbs by omega]
      refine ARun.exit rfl ?_
      refine ARun.seq ?_
      refine ARun.region ?_
      refine y_op rfl (q_loadP rfl rfl rfl rfl rfl) ?_
      refine y_op rfl (q_call rfl rfl (pc_w_signed false x)) ?_
      refine y_op rfl (q_call rfl rfl (pc_w_own' _ (by rw [sgnd_abs]; have := Nat.le_trans (ln_mono (Nat.le_of_lt hxM)) hM; omega))) ?_
      refine y_new rfl (n_storeN rfl rfl rfl rfl rfl rfl rfl rfl (Nat.le_of_ble_eq_true rfl) rfl) ?_
      refine AOps.nil ?_
      refine ARun.ret ?_
      refine ⟨_, _, _, ResR.cellA rfl rfl rfl rfl rfl rfl .nil, .cons (.same _) .nil, rfl, ?_⟩
      rw [he]; rfl
  · skip
    have c1 : m < 0 := by simpa using c1
    refine y_skip rfl ?_
    refine y_skip rfl ?_
    refine y_skip rfl ?_
    refine y_op rfl (q_pick rfl rfl rfl rfl) ?_
    refine y_gop rfl (g_call rfl rfl (PC.gp (pc_w_need _ 1))) (fun hg => by cases hg) (fun q hq => by obtain ⟨hq, rfl⟩ := hq; exact ⟨_, _, .same _, rfl, by unfold mpO; rw [if_neg hm0, if_pos (.inl c1)]; rfl⟩)
theorem okI3 {d1 d2 d3 : Bool × List Nat} (h1 : U32 d1.2) (h2 : U32 d2.2) (h3 : U32 d3.2) (h : [d1, d2, d3].all okI = true) : ∃ x y z, d1 = (decide (x < 0), lim x.natAbs) ∧ fitZ x ∧ d2 = (decide (y < 0), lim y.natAbs) ∧ fitZ y ∧ d3 = (decide (z < 0), lim z.natAbs) ∧ fitZ z := by
  simp only [List.all_cons, List.all_nil, Bool.and_true, Bool.and_eq_true] at h
  obtain ⟨x, e1, f1⟩ := okI_int h1 h.1
  obtain ⟨y, e2, f2⟩ := okI_int h2 h.2.1
  obtain ⟨z, e3, f3⟩ := okI_int h3 h.2.2
  exact ⟨x, y, z, e1, f1, e2, f2, e3, f3⟩
theorem pc_w_ModPow (d1 d2 d3 : Bool × List Nat) (h1 : U32 d1.2) (h2 : U32 d2.2) (h3 : U32 d3.2) : PC C n_whole_ModPow [intA d1.1 d1.2, intA d2.1 d2.2, intA d3.1 d3.2] (fun o => o = .ret (.tup [intD (resZ ([d1, d2, d3].all okI) (mpO (valI d1) (valI d2) (valI d3))).1, .int .i64 (resZ ([d1, d2, d3].all okI) (mpO (valI d1) (valI d2) (valI d3))).2])) := by
  refine PC.run fn_whole_ModPow en_whole_ModPow rfl nt_whole_ModPow rfl (rs := [.cell 6 25, .tmp 7]) (by rw [rs_whole_ModPow]) (by simp only [List.length_cons, List.length_nil, Nat.reduceAdd, Nat.reduceSub, List.replicate_succ, List.replicate_zero, List.cons_append, List.nil_append]; exact rfl) ?_
  refine ARun.seq ?_
  refine ARun.region ?_
  refine y_op rfl (q_boxF rfl rfl rfl rfl) ?_
  refine y_op rfl (q_boxF rfl rfl rfl rfl) ?_
  refine y_op rfl (q_boxF rfl rfl rfl rfl) ?_
  refine y_new rfl (n_alloc rfl rfl rfl rfl) ?_
  refine y_op rfl (q_assign rfl) ?_
  refine AOps.nil ?_
  refine ARun.seq ?_
  refine ARun.region ?_
  refine y_op rfl (q_mkFunc rfl) ?_
  refine y_op rfl (q_loadAgg rfl rfl rfl rfl rfl) ?_
  refine y_op rfl (q_loadAgg rfl rfl rfl rfl rfl) ?_
  refine y_op rfl (q_loadAgg rfl rfl rfl rfl rfl) ?_
  refine y_op rfl (q_buildF rfl rfl rfl rfl rfl rfl rfl rfl rfl rfl rfl (by decide) (by decide) rfl) ?_
  refine y_op rfl (q_call rfl rfl (pc_w_compute [d1, d2, d3] 3 rfl n_whole_ModPow_1 [.sptr [.bool d3.1, sln .u32 d3.2], .sptr [.bool d2.1, sln .u32 d2.2], .sptr [.bool d1.1, sln .u32 d1.2]] rfl (mpO (valI d1) (valI d2) (valI d3)) (fun h => by obtain ⟨x, y, z, rfl, f1, rfl, f2, rfl, f3⟩ := okI3 h1 h2 h3 h; rw [valI_int, valI_int, valI_int]; exact pc_w_ModPow_1 x y z f1 f2 f3))) ?_
  refine y_op rfl (q_extract rfl rfl) ?_
  refine y_op rfl (q_extract rfl rfl) ?_
  refine y_new rfl (n_storeN rfl rfl rfl rfl rfl rfl rfl rfl (Nat.le_of_ble_eq_true rfl) rfl) ?_
  refine y_op rfl (q_assign rfl) ?_
  refine AOps.nil ?_
  refine ARun.ret ?_
  refine ⟨_, _, _, ResR.cellA rfl rfl rfl rfl rfl rfl (.tmp rfl .nil), .cons (.same _) (.cons (.same _) .nil), rfl, ?_⟩
  rfl
end Go.V
