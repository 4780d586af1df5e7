/- A part of the proof: abstract values, rules for the steps of the program's form, and contracts of its functions, each proved; no condition. -/
import Derived.Test.YtjohcjagbodicaaGreatDoorA13
import Derived.Test.YtjohcjagbodicaaGreatDoorTie
import Derived.Test.YtjohcjagbodicaaGreatDoorCards
import Derived.ProofKit
import Derived.OpenShut
import Derived.LaidMore
import Derived.Lay
import Derived.SevenTiedAt
import Derived.Carry
import Derived.Stop.Joined
set_option linter.unusedVariables false
set_option linter.unusedSimpArgs false
set_option maxHeartbeats 4000000
set_option maxRecDepth 100000
set_option synthInstance.maxSize 100000
set_option synthInstance.maxHeartbeats 2000000
namespace Go.V
open Go.RowKit Go.Proofs
abbrev P2 (n : Nat) : Int := ((2 ^ n : Nat) : Int)
theorem P2_pos (n : Nat) : 0 < P2 n := Int.natCast_pos.2 (Nat.two_pow_pos n)
theorem ln_two (n m : Nat) (h : n < 32 * m) : (lim (2 ^ n)).length ≤ m := by
  rw [ln_le_iff, B_pow]; exact Nat.pow_lt_pow_right (by decide) h
theorem fit_P2 {n : Nat} (h : n < 32768) : fitZ (P2 n) := by
  unfold fitZ; rw [Int.natAbs_natCast]; exact ln_two n 1024 (by omega)
def wrapZ (n : Nat) (s : Bool) (a : Int) : Int := bif s && decide (P2 (n - 1) ≤ a % P2 n) then a % P2 n - P2 n else a % P2 n
def wrapO (bits : Int) (s : Bool) (a : Int) : Int ⊕ Int := if 1 ≤ bits ∧ bits ≤ 4096 then .inl (wrapZ bits.toNat s a) else .inr 1
theorem natShl1 (n : Nat) (hn : n < 32768) : PC C n_nat_Shl [.sl 1 [.int .u32 1], .int .i64 (n : Int)] (fun o => o = .ret (.tup [numD (2 ^ n), .int .i64 0])) := by
  have h := pc_nat_Shl 1 n (by rw [lim_one]; decide) (by omega)
  rw [← numD_one] at h
  refine h.mono fun o ho => ?_
  have : shlR 1 n = (2 ^ n, 0) := by
    unfold shlR
    rw [if_neg (by decide), Nat.one_mul, if_pos ⟨by omega, ln_two n 1024 (by omega)⟩]
  rw [ho, this]
theorem w_sum_ok {x y : Int} (hx : fitZ x) (hy : fitZ y) (h : fitZ (x + y)) : PC C n_whole_sum [intD x, intD y] (fun o => o = .ret (intD (x + y))) :=
  (pc_w_sum x y hx hy).mono fun o ho => by rcases ho with ⟨_, h2⟩ | ⟨h1, _⟩; exact h2; exact absurd h h1
theorem w_div3 {a m : Int} (ha : fitZ a) (hm : fitZ m) (h0 : 0 < m) : ∃ q, PC C n_whole_divide [intD a, intD m, .agg [.clos n_whole_kinds_3 []]] (fun o => o = .ret (.tup [intD q, intD (a % m)])) := by
  have h := pc_w_divide a m ha hm (by omega) n_whole_kinds_3 _ (fun _ => pc_w_k3 (a.tdiv m) (a.tmod m) a m)
  rw [divW_euclid h0] at h
  exact ⟨_, h⟩
theorem fit_emod {a m : Int} (hm : fitZ m) (h0 : 0 < m) : fitZ (a % m) := by
  have h1 := Int.emod_nonneg a (show m ≠ 0 by omega)
  have h2 := Int.emod_lt_of_pos a h0
  exact fit_mono (by omega) hm
theorem wrapZ_bounds {n : Nat} {s : Bool} {a : Int} : (wrapZ n s a).natAbs ≤ (P2 n).natAbs := by
  have h0 := P2_pos n
  have h1 := Int.emod_nonneg a (show P2 n ≠ 0 by omega)
  have h2 := Int.emod_lt_of_pos a h0
  unfold wrapZ
  cases (s && decide (P2 (n - 1) ≤ a % P2 n)) <;> simp only [cond_true, cond_false] <;> omega
theorem cmp_P2 {x : Int} {k : Nat} (h0 : 0 ≤ x) : cmpI x.natAbs (2 ^ k) ≥ 0 ↔ P2 k ≤ x := by
  unfold cmpI P2
  generalize (2 : Nat) ^ k = y
  split
  · constructor <;> intro h <;> omega
  · split <;> constructor <;> intro h <;> omega
theorem pc_w_Wrap_1 (a : Int) (ha : fitZ a) (bits : Int) (s : Bool) : PC C n_whole_Wrap_1 [.sptr [.int .i64 bits], capZ a, .sptr [.bool s]] (fun o => o = outZ (wrapO bits s a)) := by
  refine PC.run fn_whole_Wrap_1 en_whole_Wrap_1 rfl nt_whole_Wrap_1 rfl (rs := [.cell 3 25]) (by rw [rs_whole_Wrap_1]) (by simp only [List.length_cons, List.length_nil, Nat.reduceAdd, Nat.reduceSub, List.replicate_succ, List.replicate_zero, List.cons_append, List.nil_append]; exact rfl) ?_
  refine ARun.seq ?_
  refine ARun.region ?_
  refine y_new rfl (n_alloc rfl rfl rfl rfl) ?_
  refine AOps.nil ?_
  refine ARun.seq ?_
  refine ARun.region ?_
  refine y_op rfl (q_load rfl rfl rfl rfl) ?_
  refine y_op rfl (q_int rfl rfl rfl) ?_
  refine y_op rfl (q_move rfl) ?_
  refine AOps.bool 9 rfl (fun g1 => ?_) (fun g1 => ?_)
  · skip
    have g1 := of_decide_eq_true g1
    refine y_op rfl (q_load rfl rfl rfl rfl) ?_
    refine y_op rfl (q_int rfl rfl rfl) ?_
    refine y_op rfl (q_pick rfl rfl rfl rfl) ?_
    refine y_gop rfl (g_call rfl rfl (PC.gp (pc_w_need _ 1))) (fun hg => ?_) (fun q hq => by obtain ⟨hq, rfl⟩ := hq; exact ⟨_, _, .same _, rfl, by have hq : ¬ bits ≤ 4096 := of_decide_eq_false hq; unfold wrapO; rw [if_neg (fun h => hq h.2)]; rfl⟩)
    have hg : bits ≤ 4096 := of_decide_eq_true hg
    obtain ⟨n, rfl⟩ : ∃ n : Nat, bits = (n : Int) := ⟨bits.toNat, by omega⟩
    have hO : wrapO (n : Int) s a = .inl (wrapZ n s a) := by unfold wrapO; rw [if_pos ⟨g1, hg⟩]; rfl
    rw [hO]
    have hM : fitZ (P2 n) := fit_P2 (by omega)
    have hp := P2_pos n
    obtain ⟨q, hdv⟩ := w_div3 (a := a) ha hM hp
    have hr := fit_emod (a := a) hM hp
    have hr0 := Int.emod_nonneg a (show P2 n ≠ 0 by omega)
    have hr1 := Int.emod_lt_of_pos a hp
    have hwf : fitZ (wrapZ n s a) := fit_mono wrapZ_bounds hM
    refine AOps.nil ?_
    refine ARun.seq ?_
    refine ARun.region ?_
    refine y_op rfl (q_buildF rfl rfl rfl rfl rfl rfl rfl rfl rfl rfl rfl (by decide) (by decide) rfl) ?_
    refine y_op rfl (q_load rfl rfl rfl rfl) ?_
    refine y_op rfl (q_call rfl rfl (natShl1 n (by omega))) ?_
    refine y_op rfl (q_extract rfl rfl) ?_
    refine y_op rfl (q_extract rfl rfl) ?_
    refine y_op rfl (q_call rfl rfl (pc_w_must0 (2 ^ n))) ?_
    refine y_op rfl (q_call rfl rfl (pc_w_signed false (2 ^ n))) ?_
    refine y_allocF rfl rfl rfl rfl rfl rfl rfl rfl rfl rfl rfl ?_
    refine AOps.nil ?_
    refine ARun.seq ?_
    refine ARun.drawnG (n := 11) (fun S : Nat → Bool => [cell0]) [(8, 5, 25, [.bool false, .nilsl], some (10, [.bool (decide (q < 0)), numD q.natAbs])), (9, 6, 25, [.bool false, .nilsl], none)] (fun _ => False) (sk := [(8, some 10), (9, none)]) mixC rfl rfl (by kernel_rfl) rfl (by kernel_rfl) rfl (fun _ _ _ h => h.elim) ?_
    refine DChG.op rfl (fun _ => q_loadAgg rfl rfl rfl rfl rfl) (fun _ => rfl) rfl rfl ?_
    refine DChG.op rfl (fun _ => q_loadAgg rfl rfl rfl rfl rfl) (fun _ => rfl) rfl rfl ?_
    refine DChG.op rfl (fun _ => q_call rfl rfl (pc_w_kinds)) (fun _ => rfl) rfl rfl ?_
    refine DChG.op rfl (fun _ => q_lookupW (kt := t_int) (et := t_whole_kind) (by kernel_rfl) (by kernel_rfl) rfl rfl rfl rfl rfl (find_kind 3)) (fun _ => rfl) rfl rfl ?_
    refine DChG.op rfl (fun _ => q_call rfl rfl (hdv)) (fun _ => rfl) rfl rfl ?_
    refine DChG.op rfl (fun _ => q_move rfl) (fun _ => rfl) rfl rfl ?_
    refine DChG.op rfl (fun _ => q_extract rfl rfl) (fun _ => rfl) rfl rfl ?_
    refine DChG.op rfl (fun _ => q_extract rfl rfl) (fun _ => rfl) rfl rfl ?_
    refine .al rfl rfl rfl rfl (fun _ => rfl) rfl rfl rfl ?_
    refine .al rfl rfl rfl rfl (fun _ => rfl) rfl rfl rfl ?_
    refine .sp (j := 8) rfl rfl rfl rfl rfl rfl rfl (fun _ => rfl) rfl rfl rfl (by kernel_rfl) ?_
    refine .nil (fun hG => AOps.fin (n := 1) (as' := [(8, 5, 25, [.bool (decide (q < 0)), numD q.natAbs]), (9, 6, 25, [.bool false, .nilsl])]) (H' := [cell0, cellZ q, cell0]) rfl rfl rfl ?_)
    refine y_new rfl (n_storeN rfl rfl rfl rfl rfl rfl rfl rfl (Nat.le_of_ble_eq_true rfl) rfl) ?_
    refine AOps.nil ?_
    refine ARun.seq ?_
    refine ARun.seq ?_
    cases s with
    | false =>
      refine ARun.drawnP 14 (fun _ => False) mixC rfl rfl (by kernel_rfl) (fun _ _ h => h.elim) ?_
      refine .op rfl (q_load rfl rfl rfl rfl) ?_
      refine .op rfl (q_move rfl) ?_
      refine .skip rfl ?_
      refine .skip rfl ?_
      refine .skip rfl ?_
      refine .skip rfl ?_
      refine .skip rfl ?_
      refine .skip rfl ?_
      refine .skip rfl ?_
      refine .skip rfl ?_
      refine .skip rfl ?_
      refine .skip rfl ?_
      refine .skip rfl ?_
      refine .op rfl (q_pick rfl rfl rfl rfl) ?_
      refine .nil (fun hG => ?_)
      refine AOps.nil ?_
      refine ARun.condF rfl ?_
      refine ARun.skip ?_
      refine ARun.seq ?_
      refine ARun.region ?_
      refine y_op rfl (q_loadAggP rfl rfl rfl rfl rfl rfl) ?_
      refine y_op rfl (q_call rfl rfl (pc_w_own (a % P2 n) hr)) ?_
      refine y_new rfl (n_storeN rfl rfl rfl rfl rfl rfl rfl rfl (Nat.le_of_ble_eq_true rfl) rfl) ?_
      refine AOps.nil ?_
      refine ARun.ret ?_
      refine ⟨_, _, _, ResR.cellA rfl rfl rfl rfl rfl rfl .nil, .cons (.same _) .nil, rfl, ?_⟩
      rfl
    | true =>
      refine ARun.drawnP 14 (fun _ => False) mixC rfl rfl (by kernel_rfl) (fun _ _ h => h.elim) ?_
      refine .op rfl (q_load rfl rfl rfl rfl) ?_
      refine .op rfl (q_move rfl) ?_
      refine .op rfl (q_fldP rfl rfl rfl (by decide)) ?_
      refine .op rfl (q_loadP rfl rfl rfl rfl rfl) ?_
      refine .op rfl (q_buildF rfl rfl rfl rfl rfl rfl rfl rfl rfl rfl rfl (by decide) (by decide) rfl) ?_
      refine .op rfl (q_load rfl rfl rfl rfl) ?_
      refine .op rfl (q_sub rfl rfl (nsub1_i64 (by omega) (by omega))) ?_
      refine .op rfl (q_call rfl rfl (natShl1 (n - 1) (by omega))) ?_
      refine .op rfl (q_extract rfl rfl) ?_
      refine .op rfl (q_extract rfl rfl) ?_
      refine .op rfl (q_call rfl rfl (pc_w_must0 (2 ^ (n - 1)))) ?_
      refine .op rfl (q_call rfl rfl (pc_w_order (a % P2 n).natAbs (2 ^ (n - 1)) hr (ln_two _ _ (by omega)))) ?_
      refine .op rfl (q_int rfl rfl rfl) ?_
      refine .op rfl (q_pick rfl rfl rfl rfl) ?_
      refine .nil (fun hG => ?_)
      refine AOps.nil ?_
      refine ARun.ite rfl (fun h => ?_) (fun h => ?_)
      · skip
        have h : P2 (n - 1) ≤ a % P2 n := (cmp_P2 hr0).1 h
        have hw : wrapZ n true a = a % P2 n + -P2 n := by unfold wrapZ; rw [decide_eq_true h]; exact Int.sub_eq_add_neg
        refine ARun.drawnP 4 (fun _ => False) mixC rfl rfl (by kernel_rfl) (fun _ _ h => h.elim) ?_
        refine .op rfl (q_loadAggP rfl rfl rfl rfl rfl rfl) ?_
        refine .op rfl (q_loadAgg rfl rfl rfl rfl rfl) ?_
        refine .op rfl (q_call rfl rfl (pc_w_negated (P2 n))) ?_
        refine .op rfl (q_call rfl rfl (w_sum_ok hr (fitZ_neg hM) (by rw [← hw]; exact hwf))) ?_
        refine .nil (fun hG => ?_)
        refine y_new rfl (n_storeN rfl rfl rfl rfl rfl rfl rfl rfl (Nat.le_of_ble_eq_true rfl) rfl) ?_
        refine AOps.nil ?_
        refine ARun.seq ?_
        refine ARun.region ?_
        refine y_op rfl (q_loadAggP rfl rfl rfl rfl rfl rfl) ?_
        refine y_op rfl (q_call rfl rfl (pc_w_own (a % P2 n + -P2 n) (by rw [← hw]; exact hwf))) ?_
        refine y_new rfl (n_storeN rfl rfl rfl rfl rfl rfl rfl rfl (Nat.le_of_ble_eq_true rfl) rfl) ?_
        refine AOps.nil ?_
        refine ARun.ret ?_
        refine ⟨_, _, _, ResR.cellA rfl rfl rfl rfl rfl rfl .nil, .cons (.same _) .nil, rfl, ?_⟩
        rw [hw]; rfl
      · skip
        have h : ¬ P2 (n - 1) ≤ a % P2 n := fun e => h ((cmp_P2 hr0).2 e)
        have hw : wrapZ n true a = a % P2 n := by unfold wrapZ; rw [decide_eq_false h]; rfl
        refine ARun.skip ?_
        refine ARun.seq ?_
        refine ARun.region ?_
        refine y_op rfl (q_loadAggP rfl rfl rfl rfl rfl rfl) ?_
        refine y_op rfl (q_call rfl rfl (pc_w_own (a % P2 n) hr)) ?_
        refine y_new rfl (n_storeN rfl rfl rfl rfl rfl rfl rfl rfl (Nat.le_of_ble_eq_true rfl) rfl) ?_
        refine AOps.nil ?_
        refine ARun.ret ?_
        refine ⟨_, _, _, ResR.cellA rfl rfl rfl rfl rfl rfl .nil, .cons (.same _) .nil, rfl, ?_⟩
        rw [hw]; rfl
  · skip
    have g1 := of_decide_eq_false g1
    refine y_skip rfl ?_
    refine y_skip rfl ?_
    refine y_op rfl (q_pick rfl rfl rfl rfl) ?_
    refine y_gop rfl (g_call rfl rfl (PC.gp (pc_w_need _ 1))) (fun hg => by cases hg) (fun q hq => by obtain ⟨hq, rfl⟩ := hq; exact ⟨_, _, .same _, rfl, by unfold wrapO; rw [if_neg (fun h => g1 h.1)]; rfl⟩)
theorem pc_w_Wrap (d : Bool × List Nat) (hd : U32 d.2) (bits : Int) (s : Bool) : PC C n_whole_Wrap [intA d.1 d.2, .int .i64 bits, .bool s] (fun o => o = .ret (.tup [intD (resZ ([d].all okI) (wrapO bits s (valI d))).1, .int .i64 (resZ ([d].all okI) (wrapO bits s (valI d))).2])) := by
  refine PC.run fn_whole_Wrap en_whole_Wrap rfl nt_whole_Wrap rfl (rs := [.cell 6 25, .tmp 7]) (by rw [rs_whole_Wrap]) (by simp only [List.length_cons, List.length_nil, Nat.reduceAdd, Nat.reduceSub, List.replicate_succ, List.replicate_zero, List.cons_append, List.nil_append]; exact rfl) ?_
  refine ARun.seq ?_
  refine ARun.region ?_
  refine y_op rfl (q_boxF rfl rfl rfl rfl) ?_
  refine y_op rfl (q_boxF rfl rfl rfl rfl) ?_
  refine y_op rfl (q_boxF rfl rfl rfl rfl) ?_
  refine y_new rfl (n_alloc rfl rfl rfl rfl) ?_
  refine y_op rfl (q_assign rfl) ?_
  refine AOps.nil ?_
  refine ARun.seq ?_
  refine ARun.region ?_
  refine y_op rfl (q_mkFunc rfl) ?_
  refine y_op rfl (q_loadAgg rfl rfl rfl rfl rfl) ?_
  refine y_op rfl (q_buildF rfl rfl rfl rfl rfl rfl rfl rfl rfl rfl rfl (by decide) (by decide) rfl) ?_
  refine y_op rfl (q_call rfl rfl (pc_w_compute [d] 1 rfl n_whole_Wrap_1 [.sptr [.int .i64 bits], .sptr [.bool d.1, sln .u32 d.2], .sptr [.bool s]] rfl (wrapO bits s (valI d)) (fun h => by obtain ⟨x, rfl, f1⟩ := okI_int hd (by simpa using h); rw [valI_int]; exact pc_w_Wrap_1 x f1 bits s))) ?_
  refine y_op rfl (q_extract rfl rfl) ?_
  refine y_op rfl (q_extract rfl rfl) ?_
  refine y_new rfl (n_storeN rfl rfl rfl rfl rfl rfl rfl rfl (Nat.le_of_ble_eq_true rfl) rfl) ?_
  refine y_op rfl (q_assign rfl) ?_
  refine AOps.nil ?_
  refine ARun.ret ?_
  refine ⟨_, _, _, ResR.cellA rfl rfl rfl rfl rfl rfl (.tmp rfl .nil), .cons (.same _) (.cons (.same _) .nil), rfl, ?_⟩
  rfl
/-- An integer times a power of 2, rounded down. -/
noncomputable def shiftO (a n : Int) : Int ⊕ Int := if 0 ≤ n then (if a = 0 then .inl 0 else if n ≤ 32768 then fitO (a * P2 n.toNat) else .inr 2) else .inl (a / P2 (min (-n).toNat 33792))
theorem shlR_fit (a n : Nat) : (lim (shlR a n).1).length ≤ 1024 := by
  unfold shlR
  split
  · show (lim 0).length ≤ 1024; rw [lim_zero]; decide
  · split
    · rename_i h; exact h.2
    · show (lim 0).length ≤ 1024; rw [lim_zero]; decide
theorem natSub_ok {a b : Nat} (ha : (lim a).length ≤ 1024) (hb : (lim b).length ≤ 1024) (h : b ≤ a) : PC C n_nat_Sub [numD a, numD b] (fun o => o = .ret (.tup [numD (a - b), .int .i64 0])) :=
  (pc_nat_Sub (lim a) (lim b) (U32_lim _) (U32_lim _)).mono fun o ho => by
    have : (lim (a - b)).length ≤ 1024 := Nat.le_trans (ln_mono (Nat.sub_le _ _)) ha
    rw [ho, resN_ok ha hb, val_lim, val_lim, if_pos h]
    simp only [if_pos this]
theorem natAdd_ok {a b : Nat} (ha : (lim a).length ≤ 1024) (hb : (lim b).length ≤ 1024) (h : (lim (a + b)).length ≤ 1024) : PC C n_nat_Add [numD a, numD b] (fun o => o = .ret (.tup [numD (a + b), .int .i64 0])) :=
  (pc_nat_Add (lim a) (lim b) (U32_lim _) (U32_lim _)).mono fun o ho => by
    rw [ho, resN_ok ha hb, val_lim, val_lim]
    simp only [if_pos h]
theorem floor_neg {x p : Nat} (hp : 0 < p) (hx : 0 < x) : -(((x - 1) / p + 1 : Nat) : Int) = -(x : Int) / (p : Int) := by
  obtain ⟨y, rfl⟩ : ∃ y, x = y + 1 := ⟨x - 1, by omega⟩
  rw [Nat.add_sub_cancel]
  have h1 := Nat.div_add_mod y p
  have h2 := Nat.mod_lt y hp
  have h3 : -((y + 1 : Nat) : Int) = ((p : Int) - 1 - ((y % p : Nat) : Int)) + (p : Int) * (-((y / p + 1 : Nat) : Int)) := by
    have h4 : (p : Int) * ((y / p : Nat) : Int) + ((y % p : Nat) : Int) = (y : Int) := by rw [← Int.natCast_mul, ← Int.natCast_add, h1]
    rw [Int.natCast_add, Int.natCast_add, Int.mul_neg, Int.mul_add]
    omega
  rw [h3, Int.add_mul_ediv_left _ _ (by omega), Int.ediv_eq_zero_of_lt (by omega) (by omega), Int.zero_add]
theorem pc_w_Shift_1 (a : Int) (ha : fitZ a) (n : Int) (h1 : -9223372036854775808 ≤ n) (h2 : n ≤ 9223372036854775807) : PC C n_whole_Shift_1 [.sptr [.int .i64 n], capZ a] (fun o => o = outZ (shiftO a n)) := by
  have ha' : (lim a.natAbs).length ≤ 1024 := ha
  refine PC.run fn_whole_Shift_1 en_whole_Shift_1 rfl nt_whole_Shift_1 rfl (rs := [.cell 2 25]) (by rw [rs_whole_Shift_1]) (by simp only [List.length_cons, List.length_nil, Nat.reduceAdd, Nat.reduceSub, List.replicate_succ, List.replicate_zero, List.cons_append, List.nil_append]; exact rfl) ?_
  refine ARun.seq ?_
  refine ARun.region ?_
  refine y_new rfl (n_alloc rfl rfl rfl rfl) ?_
  refine AOps.nil ?_
  refine ARun.seq ?_
  refine ARun.seq ?_
  refine ARun.region ?_
  refine y_op rfl (q_load rfl rfl rfl rfl) ?_
  refine y_op rfl (q_int rfl rfl rfl) ?_
  refine AOps.nil ?_
  refine ARun.ite rfl (fun hn => ?_) (fun hn => ?_)
  · skip
    obtain ⟨m, rfl⟩ : ∃ m : Nat, n = (m : Int) := ⟨n.toNat, by omega⟩
    have hres : ∀ e : Int, (shlR a.natAbs m).2 = e → (e = 0 → shiftO a m = .inl (sgnd (decide (a < 0)) (shlR a.natAbs m).1) ∧ fitZ (sgnd (decide (a < 0)) (shlR a.natAbs m).1)) ∧ (e ≠ 0 → e = 2 ∧ shiftO a m = .inr 2) := by
      rintro e rfl
      unfold shiftO shlR
      rw [if_pos (show (0 : Int) ≤ (m : Int) by omega)]
      by_cases h0 : a = 0
      · subst h0
        rw [if_pos rfl, show (0 : Int).natAbs = 0 from rfl, if_pos rfl]
        exact ⟨fun _ => ⟨rfl, by show (lim 0).length ≤ 1024; rw [lim_zero]; decide⟩, fun h => absurd rfl h⟩
      · rw [if_neg h0, if_neg (by omega)]
        have e1 : (a * P2 m).natAbs = a.natAbs * 2 ^ m := by rw [Int.natAbs_mul, Int.natAbs_natCast]
        have e2 : sgnd (decide (a < 0)) (a.natAbs * 2 ^ m) = a * P2 m := by
          unfold sgnd
          by_cases h : a < 0
          · rw [decide_eq_true h, cond_true, Int.natCast_mul, ← Int.neg_mul, show -(a.natAbs : Int) = a by omega]
          · rw [decide_eq_false h, cond_false, Int.natCast_mul, show (a.natAbs : Int) = a by omega]
        by_cases h3 : m ≤ 32768
        · rw [if_pos (show (m : Int) ≤ 32768 by omega)]
          by_cases h4 : (lim (a.natAbs * 2 ^ m)).length ≤ 1024
          · have h5 : fitZ (a * P2 m) := by unfold fitZ; rw [e1]; exact h4
            rw [if_pos ⟨h3, h4⟩]
            exact ⟨fun _ => ⟨by dsimp only; rw [e2]; exact fitO_t h5, by dsimp only; rw [e2]; exact h5⟩, fun h => absurd rfl h⟩
          · have h5 : ¬ fitZ (a * P2 m) := by unfold fitZ; rw [e1]; exact h4
            rw [if_neg (fun h => h4 h.2)]
            exact ⟨fun h => (by cases h), fun _ => ⟨rfl, fitO_f h5⟩⟩
        · rw [if_neg (show ¬ (m : Int) ≤ 32768 by omega), if_neg (fun h => h3 h.1)]
          exact ⟨fun h => (by cases h), fun _ => ⟨rfl, rfl⟩⟩
    obtain ⟨hr1, hr2⟩ := hres _ rfl
    refine ARun.seq ?_
    refine ARun.drawnP 11 (fun q => (shlR a.natAbs m).2 ≠ 0 ∧ q = failW (shlR a.natAbs m).2) mixC rfl rfl (by kernel_rfl) (fun _ _ h => by obtain ⟨h1, rfl⟩ := h; obtain ⟨h3, h4⟩ := hr2 h1; exact ⟨_, _, .same _, rfl, by rw [h3, h4]; rfl⟩) ?_
    refine .op rfl (q_fldS rfl rfl rfl (by decide)) ?_
    refine .op rfl (q_load rfl rfl rfl rfl) ?_
    refine .op rfl (q_fldS rfl rfl rfl (by decide)) ?_
    refine .op rfl (q_load rfl rfl rfl rfl) ?_
    refine .op rfl (q_load rfl rfl rfl rfl) ?_
    refine .op rfl (q_call rfl rfl (pc_nat_Shl a.natAbs m ha' (by omega))) ?_
    refine .op rfl (q_extract rfl rfl) ?_
    refine .op rfl (q_extract rfl rfl) ?_
    refine .opP rfl (g_call rfl rfl ((pc_w_must (shlR a.natAbs m).1 (shlR a.natAbs m).2).mono fun o ho => ho.imp id (fun ⟨x, y⟩ => ⟨_, ⟨x, rfl⟩, y⟩))) ?_
    refine .op rfl (q_call rfl rfl (pc_w_signed (decide (a < 0)) (shlR a.natAbs m).1)) ?_
    refine .op rfl (q_call rfl rfl (pc_w_own' _ (by rw [sgnd_abs]; have := shlR_fit a.natAbs m; omega))) ?_
    refine .nil (fun hG => ?_)
    refine y_new rfl (n_storeN rfl rfl rfl rfl rfl rfl rfl rfl (Nat.le_of_ble_eq_true rfl) rfl) ?_
    refine AOps.nil ?_
    refine ARun.ret ?_
    refine ⟨_, _, _, ResR.cellA rfl rfl rfl rfl rfl rfl .nil, .cons (.same _) .nil, rfl, ?_⟩
    rw [(hr1 hG.2).1]; rfl
  · skip
    obtain ⟨kk, hkk⟩ : ∃ kk, kk = min (-n).toNat 33792 := ⟨_, rfl⟩
    have hO : shiftO a n = .inl (a / P2 kk) := by unfold shiftO; rw [if_neg (by omega), hkk]
    rw [hO]
    refine ARun.skip ?_
    refine ARun.seq ?_
    refine ARun.region ?_
    refine y_op rfl (q_load rfl rfl rfl rfl) ?_
    refine y_op rfl (q_maxR (r := -(kk : Int)) rfl rfl (by omega)) ?_
    refine y_op rfl (q_neg rfl (show _ = (kk : Int) by rw [IntWalk.i64_in _ (by omega)]; omega)) ?_
    refine y_op rfl (q_assign rfl) ?_
    refine AOps.nil ?_
    refine ARun.seq ?_
    refine ARun.seq ?_
    refine ARun.region ?_
    refine y_op rfl (q_fldS rfl rfl rfl (by decide)) ?_
    refine y_op rfl (q_load rfl rfl rfl rfl) ?_
    refine y_op rfl (q_not rfl) ?_
    refine AOps.nil ?_
    refine ARun.cond rfl (fun hs => ?_) (fun hs => ?_)
    · skip
      have hs : ¬ a < 0 := by simpa using hs
      have hv : sgnd false (a.natAbs / 2 ^ kk) = a / P2 kk := by
        show ((a.natAbs / 2 ^ kk : Nat) : Int) = _
        rw [Int.natCast_ediv, show (a.natAbs : Int) = a by omega]
      refine ARun.seq ?_
      refine ARun.region ?_
      refine y_op rfl (q_fldS rfl rfl rfl (by decide)) ?_
      refine y_op rfl (q_load rfl rfl rfl rfl) ?_
      refine y_op rfl (q_move rfl) ?_
      refine y_op rfl (q_call rfl rfl (pc_nat_Shr a.natAbs kk ha' (by omega))) ?_
      refine y_op rfl (q_extract rfl rfl) ?_
      refine y_op rfl (q_extract rfl rfl) ?_
      refine y_op rfl (q_call rfl rfl (pc_w_must0 (a.natAbs / 2 ^ kk))) ?_
      refine y_op rfl (q_call rfl rfl (pc_w_signed false (a.natAbs / 2 ^ kk))) ?_
      refine y_op rfl (q_call rfl rfl (pc_w_own' _ (by rw [sgnd_abs]; have := ln_mono (Nat.div_le_self a.natAbs (2 ^ kk)); omega))) ?_
      refine y_new rfl (n_storeN rfl rfl rfl rfl rfl rfl rfl rfl (Nat.le_of_ble_eq_true rfl) rfl) ?_
      refine AOps.nil ?_
      refine ARun.ret ?_
      refine ⟨_, _, _, ResR.cellA rfl rfl rfl rfl rfl rfl .nil, .cons (.same _) .nil, rfl, ?_⟩
      rw [hv]; rfl
    · skip
      have hs : a < 0 := by simpa using hs
      have hv : sgnd true ((a.natAbs - 1) / 2 ^ kk + 1) = a / P2 kk := by
        have h := floor_neg (x := a.natAbs) (p := 2 ^ kk) (Nat.two_pow_pos kk) (by omega)
        show -(((a.natAbs - 1) / 2 ^ kk + 1 : Nat) : Int) = _
        rw [h, show -(a.natAbs : Int) = a by omega]
      have hq : (a.natAbs - 1) / 2 ^ kk + 1 ≤ a.natAbs := by have := Nat.div_le_self (a.natAbs - 1) (2 ^ kk); omega
      have hl1 : (lim (a.natAbs - 1)).length ≤ 1024 := Nat.le_trans (ln_mono (Nat.sub_le _ _)) ha'
      have hl2 : (lim ((a.natAbs - 1) / 2 ^ kk)).length ≤ 1024 := Nat.le_trans (ln_mono (Nat.div_le_self _ _)) hl1
      have hl3 : (lim ((a.natAbs - 1) / 2 ^ kk + 1)).length ≤ 1024 := Nat.le_trans (ln_mono hq) ha'
      have hone : (lim 1).length ≤ 1024 := by rw [lim_one]; decide
      have hsub := natSub_ok ha' hone (show 1 ≤ a.natAbs by omega)
      rw [← numD_one] at hsub
      have hadd := natAdd_ok hl2 hone hl3
      rw [← numD_one] at hadd
      refine ARun.skip ?_
      refine ARun.seq ?_
      refine ARun.region ?_
      refine y_op rfl (q_fldS rfl rfl rfl (by decide)) ?_
      refine y_op rfl (q_load rfl rfl rfl rfl) ?_
      refine y_op rfl (q_buildF rfl rfl rfl rfl rfl rfl rfl rfl rfl rfl rfl (by decide) (by decide) rfl) ?_
      refine y_op rfl (q_call rfl rfl (hsub)) ?_
      refine y_op rfl (q_extract rfl rfl) ?_
      refine y_op rfl (q_extract rfl rfl) ?_
      refine y_op rfl (q_call rfl rfl (pc_w_must0 (a.natAbs - 1))) ?_
      refine y_op rfl (q_move rfl) ?_
      refine y_op rfl (q_call rfl rfl (pc_nat_Shr (a.natAbs - 1) kk hl1 (by omega))) ?_
      refine y_op rfl (q_extract rfl rfl) ?_
      refine y_op rfl (q_extract rfl rfl) ?_
      refine y_op rfl (q_call rfl rfl (pc_w_must0 ((a.natAbs - 1) / 2 ^ kk))) ?_
      refine y_op rfl (q_assign rfl) ?_
      refine AOps.nil ?_
      refine ARun.seq ?_
      refine ARun.region ?_
      refine y_op rfl (q_move rfl) ?_
      refine y_op rfl (q_buildF rfl rfl rfl rfl rfl rfl rfl rfl rfl rfl rfl (by decide) (by decide) rfl) ?_
      refine y_op rfl (q_call rfl rfl (hadd)) ?_
      refine y_op rfl (q_extract rfl rfl) ?_
      refine y_op rfl (q_extract rfl rfl) ?_
      refine y_op rfl (q_call rfl rfl (pc_w_must0 ((a.natAbs - 1) / 2 ^ kk + 1))) ?_
      refine y_op rfl (q_call rfl rfl (pc_w_signed true ((a.natAbs - 1) / 2 ^ kk + 1))) ?_
      refine y_op rfl (q_call rfl rfl (pc_w_own' _ (by rw [sgnd_abs]; omega))) ?_
      refine y_new rfl (n_storeN rfl rfl rfl rfl rfl rfl rfl rfl (Nat.le_of_ble_eq_true rfl) rfl) ?_
      refine AOps.nil ?_
      refine ARun.ret ?_
      refine ⟨_, _, _, ResR.cellA rfl rfl rfl rfl rfl rfl .nil, .cons (.same _) .nil, rfl, ?_⟩
      rw [hv]; rfl
theorem pc_w_Shift (d : Bool × List Nat) (hd : U32 d.2) (n : Int) (h1 : -9223372036854775808 ≤ n) (h2 : n ≤ 9223372036854775807) : PC C n_whole_Shift [intA d.1 d.2, .int .i64 n] (fun o => o = .ret (.tup [intD (resZ ([d].all okI) (shiftO (valI d) n)).1, .int .i64 (resZ ([d].all okI) (shiftO (valI d) n)).2])) := by
  refine PC.run fn_whole_Shift en_whole_Shift rfl nt_whole_Shift rfl (rs := [.cell 4 25, .tmp 5]) (by rw [rs_whole_Shift]) (by simp only [List.length_cons, List.length_nil, Nat.reduceAdd, Nat.reduceSub, List.replicate_succ, List.replicate_zero, List.cons_append, List.nil_append]; exact rfl) ?_
  refine ARun.seq ?_
  refine ARun.region ?_
  refine y_op rfl (q_boxF rfl rfl rfl rfl) ?_
  refine y_op rfl (q_boxF rfl rfl rfl rfl) ?_
  refine y_new rfl (n_alloc rfl rfl rfl rfl) ?_
  refine y_op rfl (q_assign rfl) ?_
  refine AOps.nil ?_
  refine ARun.seq ?_
  refine ARun.region ?_
  refine y_op rfl (q_mkFunc rfl) ?_
  refine y_op rfl (q_loadAgg rfl rfl rfl rfl rfl) ?_
  refine y_op rfl (q_buildF rfl rfl rfl rfl rfl rfl rfl rfl rfl rfl rfl (by decide) (by decide) rfl) ?_
  refine y_op rfl (q_call rfl rfl (pc_w_compute [d] 1 rfl n_whole_Shift_1 [.sptr [.int .i64 n], .sptr [.bool d.1, sln .u32 d.2]] rfl (shiftO (valI d) n) (fun h => by obtain ⟨x, rfl, f1⟩ := okI_int hd (by simpa using h); rw [valI_int]; exact pc_w_Shift_1 x f1 n h1 h2))) ?_
  refine y_op rfl (q_extract rfl rfl) ?_
  refine y_op rfl (q_extract rfl rfl) ?_
  refine y_new rfl (n_storeN rfl rfl rfl rfl rfl rfl rfl rfl (Nat.le_of_ble_eq_true rfl) rfl) ?_
  refine y_op rfl (q_assign rfl) ?_
  refine AOps.nil ?_
  refine ARun.ret ?_
  refine ⟨_, _, _, ResR.cellA rfl rfl rfl rfl rfl rfl (.tmp rfl .nil), .cons (.same _) (.cons (.same _) .nil), rfl, ?_⟩
  rfl
end Go.V
set_option maxHeartbeats 8000000
set_option maxRecDepth 100000
set_option synthInstance.maxSize 100000
set_option synthInstance.maxHeartbeats 2000000
namespace Go.V
open Go.RowKit Go.Proofs
theorem w_Wrap_ok {a : Int} {n : Nat} (s : Bool) (fa : fitZ a) (h1 : 1 ≤ n) (h2 : n ≤ 4096) : PC C n_whole_Wrap [intD a, .int .i64 (n : Int), .bool s] (fun o => o = .ret (.tup [intD (wrapZ n s a), .int .i64 0])) :=
  (pc_w_Wrap (decide (a < 0), lim a.natAbs) (U32_lim _) (n : Int) s).mono fun o ho => by
    rw [ho, valI_int]
    simp only [List.all_cons, List.all_nil, Bool.and_true, okI_of fa, wrapO, if_pos (show (1 : Int) ≤ (n : Int) ∧ (n : Int) ≤ 4096 by omega)]
    rfl
theorem w_Shift_fit {a : Int} {n : Nat} (fa : fitZ a) (h0 : a ≠ 0) (hn : n ≤ 32768) (hf : fitZ (a * P2 n)) : PC C n_whole_Shift [intD a, .int .i64 (n : Int)] (fun o => o = .ret (.tup [intD (a * P2 n), .int .i64 0])) :=
  (pc_w_Shift (decide (a < 0), lim a.natAbs) (U32_lim _) (n : Int) (by omega) (by omega)).mono fun o ho => by
    rw [ho, valI_int]
    simp only [List.all_cons, List.all_nil, Bool.and_true, okI_of fa, shiftO]
    rw [if_pos (by omega), if_neg h0, if_pos (by omega), Int.toNat_natCast, fitO_t hf]
    rfl
theorem w_Shift1 {n : Nat} (hn : n < 32768) : PC C n_whole_Shift [intD 1, .int .i64 (n : Int)] (fun o => o = .ret (.tup [intD (P2 n), .int .i64 0])) := by
  have h := w_Shift_fit (a := 1) (n := n) (lnZ_fit lnZ_1) (by decide) (by omega) (by rw [Int.one_mul]; exact fit_P2 hn)
  rwa [Int.one_mul] at h
theorem wrapZ_cong {n : Nat} {s : Bool} {a b : Int} (h : a % P2 n = b % P2 n) : wrapZ n s a = wrapZ n s b := by unfold wrapZ; rw [h]
theorem wrapZ_mod {n : Nat} {s : Bool} {a : Int} : wrapZ n s a % P2 n = a % P2 n := by
  unfold wrapZ
  cases (s && decide (P2 (n - 1) ≤ a % P2 n))
  · simp only [cond_false]; exact Int.emod_emod_of_dvd a (Int.dvd_refl _)
  · simp only [cond_true]; rw [Int.sub_emod, Int.emod_self, Int.sub_zero, Int.emod_emod_of_dvd _ (Int.dvd_refl _), Int.emod_emod_of_dvd _ (Int.dvd_refl _)]
theorem P2_half {n : Nat} (h : 1 ≤ n) : P2 n = 2 * P2 (n - 1) := by
  obtain ⟨m, rfl⟩ : ∃ m, n = m + 1 := ⟨n - 1, by omega⟩
  rw [Nat.add_sub_cancel]
  unfold P2
  rw [Nat.pow_succ, Nat.mul_comm]
  rfl
theorem wrapZ_u {n : Nat} {a : Int} : 0 ≤ wrapZ n false a ∧ wrapZ n false a < P2 n := by
  have h0 := P2_pos n
  exact ⟨Int.emod_nonneg a (by omega), Int.emod_lt_of_pos a h0⟩
theorem wrapZ_s {n : Nat} {a : Int} (h1 : 1 ≤ n) : -P2 (n - 1) ≤ wrapZ n true a ∧ wrapZ n true a < P2 (n - 1) := by
  have h0 := P2_pos n
  have h2 := Int.emod_nonneg a (show P2 n ≠ 0 by omega)
  have h3 := Int.emod_lt_of_pos a h0
  have h4 := P2_half h1
  unfold wrapZ
  by_cases h : P2 (n - 1) ≤ a % P2 n
  · rw [decide_eq_true h]; simp only [Bool.and_self, cond_true]; omega
  · rw [decide_eq_false h]; simp only [Bool.and_false, cond_false]; omega
theorem lnZ_wrap {n m : Nat} {s : Bool} {a : Int} (h : n < 32 * m) : lnZ (wrapZ n s a) ≤ m := Nat.le_trans (ln_mono wrapZ_bounds) (by rw [Int.natAbs_natCast]; exact ln_two n m h)
theorem pc_l_Wraps (d1 d2 : Bool × List Nat) (h1 : U32 d1.2) (h2 : U32 d2.2) (bits : Int) (s : Bool) : PC C n_law02_WholeWraps [intA d1.1 d1.2, intA d2.1 d2.2, .int .i64 bits, .bool s] (fun o => o = .ret (.bool true)) := by
  refine PC.run fn_law02_WholeWraps en_law02_WholeWraps rfl nt_law02_WholeWraps rfl (rs := [.tmp 8]) (by rw [rs_law02_WholeWraps]) (by simp only [List.length_cons, List.length_nil, Nat.reduceAdd, Nat.reduceSub, List.replicate_succ, List.replicate_zero, List.cons_append, List.nil_append]; exact rfl) ?_
  refine ARun.seq ?_
  refine ARun.region ?_
  refine y_op rfl (q_boxF rfl rfl rfl rfl) ?_
  refine y_op rfl (q_boxF rfl rfl rfl rfl) ?_
  refine y_op rfl (q_assign rfl) ?_
  refine AOps.nil ?_
  refine ARun.seq ?_
  refine ARun.region ?_
  refine y_op rfl (q_call rfl rfl (pc_l_awake)) ?_
  refine y_op rfl (q_assign rfl) ?_
  refine AOps.nil ?_
  refine ARun.seq ?_
  refine ARun.seq ?_
  refine ARun.region ?_
  refine y_op rfl (q_loadAgg rfl rfl rfl rfl rfl) ?_
  refine y_op rfl (q_loadAgg rfl rfl rfl rfl rfl) ?_
  refine y_op rfl (q_buildF rfl rfl rfl rfl rfl rfl rfl rfl rfl rfl rfl (by decide) (by decide) rfl) ?_
  refine y_op rfl (q_call rfl rfl (pc_l_fine [d1, d2] 2 rfl 40)) ?_
  refine y_op rfl (q_not rfl) ?_
  refine y_op rfl (q_move rfl) ?_
  refine AOps.bool 36 rfl (fun g => ?_) (fun g => ?_)
  · skip
    refine y_skip rfl ?_
    refine y_skip rfl ?_
    refine y_op rfl (q_pick rfl rfl rfl rfl) ?_
    refine y_op rfl (q_move rfl) ?_
    refine y_skip rfl ?_
    refine y_skip rfl ?_
    refine y_op rfl (q_pick rfl rfl rfl rfl) ?_
    refine AOps.nil ?_
    refine ARun.condT rfl ?_
    refine ARun.seq ?_
    refine ARun.region ?_
    refine y_op rfl (q_move rfl) ?_
    refine y_op rfl (q_assign rfl) ?_
    refine AOps.nil ?_
    refine ARun.ret ?_
    refine ⟨_, _, _, .tmp rfl .nil, .cons (.same _) .nil, rfl, ?_⟩
    rfl
  · skip
    have g := not_false_true g
    simp only [List.all_cons, List.all_nil, Bool.and_true, Bool.and_eq_true, decide_eq_true_eq] at g
    obtain ⟨⟨g1, k1⟩, g2, k2⟩ := g
    obtain ⟨a, rfl, la⟩ := fine_int h1 g1 k1
    obtain ⟨b, rfl, lb⟩ := fine_int h2 g2 k2
    refine y_op rfl (q_move rfl) ?_
    refine y_op rfl (q_int rfl rfl rfl) ?_
    refine y_op rfl (q_pick rfl rfl rfl rfl) ?_
    refine y_op rfl (q_move rfl) ?_
    refine AOps.bool 40 rfl (fun b1 => ?_) (fun b1 => ?_)
    · skip
      refine y_skip rfl ?_
      refine y_skip rfl ?_
      refine y_op rfl (q_pick rfl rfl rfl rfl) ?_
      refine AOps.nil ?_
      refine ARun.condT rfl ?_
      refine ARun.seq ?_
      refine ARun.region ?_
      refine y_op rfl (q_move rfl) ?_
      refine y_op rfl (q_assign rfl) ?_
      refine AOps.nil ?_
      refine ARun.ret ?_
      refine ⟨_, _, _, .tmp rfl .nil, .cons (.same _) .nil, rfl, ?_⟩
      rfl
    · skip
      have b1 := of_decide_eq_false b1
      refine y_op rfl (q_move rfl) ?_
      refine y_op rfl (q_int rfl rfl rfl) ?_
      refine y_op rfl (q_pick rfl rfl rfl rfl) ?_
      refine AOps.nil ?_
      refine ARun.ite rfl (fun b2 => ?_) (fun b2 => ?_)
      · skip
        refine ARun.seq ?_
        refine ARun.region ?_
        refine y_op rfl (q_move rfl) ?_
        refine y_op rfl (q_assign rfl) ?_
        refine AOps.nil ?_
        refine ARun.ret ?_
        refine ⟨_, _, _, .tmp rfl .nil, .cons (.same _) .nil, rfl, ?_⟩
        rfl
      · skip
        obtain ⟨n, rfl⟩ : ∃ n : Nat, bits = (n : Int) := ⟨bits.toNat, by omega⟩
        have hn1 : 1 ≤ n := by omega
        have hn2 : n ≤ 2000 := by omega
        have lx : lnZ (wrapZ n s a) ≤ 63 := lnZ_wrap (by omega)
        have ly : lnZ (wrapZ n s b) ≤ 63 := lnZ_wrap (by omega)
        have lab := lnZ_add 41 la lb
        have lxy := lnZ_add 64 lx ly
        have mab := lnZ_mul 80 la lb
        have mxy := lnZ_mul 126 lx ly
        have lM : lnZ (P2 n) ≤ 63 := by unfold lnZ; rw [Int.natAbs_natCast]; exact ln_two n 63 (by omega)
        have lH : lnZ (P2 (n - 1)) ≤ 63 := by unfold lnZ; rw [Int.natAbs_natCast]; exact ln_two (n - 1) 63 (by omega)
        have lax := lnZ_sub 64 la lx
        have lxH := lnZ_add 64 lx lH
        have hM := P2_pos n
        have es : wrapZ n s (wrapZ n s a + wrapZ n s b) = wrapZ n s (a + b) := wrapZ_cong (by rw [Int.add_emod, wrapZ_mod, wrapZ_mod, ← Int.add_emod])
        have ep : wrapZ n s (wrapZ n s a * wrapZ n s b) = wrapZ n s (a * b) := wrapZ_cong (by rw [Int.mul_emod, wrapZ_mod, wrapZ_mod, ← Int.mul_emod])
        have hdvd : P2 n ∣ a - wrapZ n s a := Int.dvd_of_emod_eq_zero (by rw [Int.sub_emod, wrapZ_mod, Int.sub_self, Int.zero_emod])
        have hw := fun x (h : lnZ x ≤ 200) => w_Wrap_ok (n := n) s (lnZ_fit h) hn1 (by omega)
        have hdiv := w_Div1 (a := a - wrapZ n s a) (b := P2 n) (lnZ_fit lax) (lnZ_fit lM) (by omega)
        rw [Int.tmod_eq_zero_of_dvd hdvd] at hdiv
        have z0 : (lim (0 : Int).natAbs).length = 0 := by rw [show (0 : Int).natAbs = 0 from rfl, lim_zero]; rfl
        refine ARun.skip ?_
        refine ARun.seq ?_
        refine ARun.region ?_
        refine y_op rfl (q_loadAgg rfl rfl rfl rfl rfl) ?_
        refine y_op rfl (q_move rfl) ?_
        refine y_op rfl (q_move rfl) ?_
        refine y_op rfl (q_call rfl rfl (hw a (by omega))) ?_
        refine y_op rfl (q_move rfl) ?_
        refine y_op rfl (q_extract rfl rfl) ?_
        refine y_op rfl (q_extract rfl rfl) ?_
        refine y_allocF rfl rfl rfl rfl rfl rfl rfl rfl rfl rfl rfl ?_
        refine y_op rfl (q_assign rfl) ?_
        refine AOps.nil ?_
        refine ARun.seq ?_
        refine ARun.region ?_
        refine y_op rfl (q_loadAgg rfl rfl rfl rfl rfl) ?_
        refine y_op rfl (q_move rfl) ?_
        refine y_op rfl (q_move rfl) ?_
        refine y_op rfl (q_call rfl rfl (hw b (by omega))) ?_
        refine y_op rfl (q_move rfl) ?_
        refine y_op rfl (q_extract rfl rfl) ?_
        refine y_op rfl (q_extract rfl rfl) ?_
        refine y_allocF rfl rfl rfl rfl rfl rfl rfl rfl rfl rfl rfl ?_
        refine y_op rfl (q_assign rfl) ?_
        refine AOps.nil ?_
        refine ARun.seq ?_
        refine ARun.region ?_
        refine y_op rfl (q_loadAgg rfl rfl rfl rfl rfl) ?_
        refine y_op rfl (q_loadAgg rfl rfl rfl rfl rfl) ?_
        refine y_op rfl (q_call rfl rfl (pc_l_add a b (lnZ_fit la) (lnZ_fit lb) (lnZ_fit lab))) ?_
        refine y_op rfl (q_move rfl) ?_
        refine y_op rfl (q_move rfl) ?_
        refine y_op rfl (q_call rfl rfl (hw (a + b) (by omega))) ?_
        refine y_op rfl (q_move rfl) ?_
        refine y_op rfl (q_extract rfl rfl) ?_
        refine y_op rfl (q_extract rfl rfl) ?_
        refine y_allocF rfl rfl rfl rfl rfl rfl rfl rfl rfl rfl rfl ?_
        refine y_op rfl (q_assign rfl) ?_
        refine AOps.nil ?_
        refine ARun.seq ?_
        refine ARun.region ?_
        refine y_op rfl (q_loadAgg rfl rfl rfl rfl rfl) ?_
        refine y_op rfl (q_loadAgg rfl rfl rfl rfl rfl) ?_
        refine y_op rfl (q_call rfl rfl (pc_l_add (wrapZ n s a) (wrapZ n s b) (lnZ_fit lx) (lnZ_fit ly) (lnZ_fit lxy))) ?_
        refine y_op rfl (q_move rfl) ?_
        refine y_op rfl (q_move rfl) ?_
        refine y_op rfl (q_call rfl rfl ((hw (wrapZ n s a + wrapZ n s b) (by omega)).mono fun o ho => by rw [ho, es])) ?_
        refine y_op rfl (q_move rfl) ?_
        refine y_op rfl (q_extract rfl rfl) ?_
        refine y_op rfl (q_extract rfl rfl) ?_
        refine y_allocF rfl rfl rfl rfl rfl rfl rfl rfl rfl rfl rfl ?_
        refine y_op rfl (q_assign rfl) ?_
        refine AOps.nil ?_
        refine ARun.seq ?_
        refine ARun.region ?_
        refine y_op rfl (q_loadAgg rfl rfl rfl rfl rfl) ?_
        refine y_op rfl (q_loadAgg rfl rfl rfl rfl rfl) ?_
        refine y_op rfl (q_call rfl rfl (pc_l_mul a b (lnZ_fit la) (lnZ_fit lb) (lnZ_fit mab))) ?_
        refine y_op rfl (q_move rfl) ?_
        refine y_op rfl (q_move rfl) ?_
        refine y_op rfl (q_call rfl rfl (hw (a * b) (by omega))) ?_
        refine y_op rfl (q_move rfl) ?_
        refine y_op rfl (q_extract rfl rfl) ?_
        refine y_op rfl (q_extract rfl rfl) ?_
        refine y_allocF rfl rfl rfl rfl rfl rfl rfl rfl rfl rfl rfl ?_
        refine y_op rfl (q_assign rfl) ?_
        refine AOps.nil ?_
        refine ARun.seq ?_
        refine ARun.region ?_
        refine y_op rfl (q_loadAgg rfl rfl rfl rfl rfl) ?_
        refine y_op rfl (q_loadAgg rfl rfl rfl rfl rfl) ?_
        refine y_op rfl (q_call rfl rfl (pc_l_mul (wrapZ n s a) (wrapZ n s b) (lnZ_fit lx) (lnZ_fit ly) (lnZ_fit mxy))) ?_
        refine y_op rfl (q_move rfl) ?_
        refine y_op rfl (q_move rfl) ?_
        refine y_op rfl (q_call rfl rfl ((hw (wrapZ n s a * wrapZ n s b) (by omega)).mono fun o ho => by rw [ho, ep])) ?_
        refine y_op rfl (q_move rfl) ?_
        refine y_op rfl (q_extract rfl rfl) ?_
        refine y_op rfl (q_extract rfl rfl) ?_
        refine y_allocF rfl rfl rfl rfl rfl rfl rfl rfl rfl rfl rfl ?_
        refine y_op rfl (q_assign rfl) ?_
        refine AOps.nil ?_
        refine ARun.seq ?_
        refine ARun.seq ?_
        refine ARun.region ?_
        refine y_op rfl (q_move rfl) ?_
        refine y_op rfl (q_intNeF rfl rfl rfl) ?_
        refine y_op rfl (q_move rfl) ?_
        refine y_op rfl (q_move rfl) ?_
        refine y_op rfl (q_intNeF rfl rfl rfl) ?_
        refine y_op rfl (q_pick rfl rfl rfl rfl) ?_
        refine y_op rfl (q_move rfl) ?_
        refine y_op rfl (q_move rfl) ?_
        refine y_op rfl (q_intNeF rfl rfl rfl) ?_
        refine y_op rfl (q_pick rfl rfl rfl rfl) ?_
        refine y_op rfl (q_move rfl) ?_
        refine y_op rfl (q_move rfl) ?_
        refine y_op rfl (q_intNeF rfl rfl rfl) ?_
        refine y_op rfl (q_pick rfl rfl rfl rfl) ?_
        refine y_op rfl (q_move rfl) ?_
        refine y_op rfl (q_move rfl) ?_
        refine y_op rfl (q_intNeF rfl rfl rfl) ?_
        refine y_op rfl (q_pick rfl rfl rfl rfl) ?_
        refine y_op rfl (q_move rfl) ?_
        refine y_op rfl (q_move rfl) ?_
        refine y_op rfl (q_intNeF rfl rfl rfl) ?_
        refine y_op rfl (q_pick rfl rfl rfl rfl) ?_
        refine y_op rfl (q_move rfl) ?_
        refine y_op rfl (q_loadAgg rfl rfl rfl rfl rfl) ?_
        refine y_op rfl (q_loadAgg rfl rfl rfl rfl rfl) ?_
        refine y_op rfl (q_call rfl rfl (pc_l_equalT (wrapZ n s (a + b)) (wrapZ n s (a + b)) (lnZ_fit (lnZ_wrap (m := 63) (by omega))) rfl)) ?_
        refine y_op rfl (q_not rfl) ?_
        refine y_op rfl (q_pick rfl rfl rfl rfl) ?_
        refine y_op rfl (q_move rfl) ?_
        refine y_op rfl (q_loadAgg rfl rfl rfl rfl rfl) ?_
        refine y_op rfl (q_loadAgg rfl rfl rfl rfl rfl) ?_
        refine y_op rfl (q_call rfl rfl (pc_l_equalT (wrapZ n s (a * b)) (wrapZ n s (a * b)) (lnZ_fit (lnZ_wrap (m := 63) (by omega))) rfl)) ?_
        refine y_op rfl (q_not rfl) ?_
        refine y_op rfl (q_pick rfl rfl rfl rfl) ?_
        refine AOps.nil ?_
        refine ARun.condF rfl ?_
        refine ARun.skip ?_
        refine ARun.seq ?_
        refine ARun.region ?_
        refine y_op rfl (q_call rfl rfl (pc_w_FromInt 1 (by decide) (by decide))) ?_
        refine y_op rfl (q_move rfl) ?_
        refine y_op rfl (q_call rfl rfl (w_Shift1 (n := n) (by omega))) ?_
        refine y_op rfl (q_move rfl) ?_
        refine y_op rfl (q_extract rfl rfl) ?_
        refine y_op rfl (q_extract rfl rfl) ?_
        refine y_allocF rfl rfl rfl rfl rfl rfl rfl rfl rfl rfl rfl ?_
        refine y_op rfl (q_assign rfl) ?_
        refine AOps.nil ?_
        refine ARun.seq ?_
        refine ARun.drawnF (n := 13) (fun S : Nat → Bool => _) [(9, 24, 25, [.bool false, .nilsl], some (11, [.bool (decide ((a - wrapZ n s a).tdiv (P2 n) < 0)), numD ((a - wrapZ n s a).tdiv (P2 n)).natAbs])), (10, 25, 25, [.bool false, .nilsl], some (12, [.bool (decide ((0 : Int) < 0)), numD (0 : Int).natAbs]))] (fun _ => False) (sk := [(9, some 11), (10, some 12)]) mixC rfl rfl (by kernel_rfl) rfl (by kernel_rfl) rfl rfl (fun _ _ _ h => h.elim) ?_
        refine DChG.op rfl (fun _ => q_loadAgg rfl rfl rfl rfl rfl) (fun _ => rfl) rfl rfl ?_
        refine DChG.op rfl (fun _ => q_loadAgg rfl rfl rfl rfl rfl) (fun _ => rfl) rfl rfl ?_
        refine DChG.op rfl (fun _ => q_call rfl rfl (pc_l_sub a (wrapZ n s a) (lnZ_fit la) (lnZ_fit lx) (lnZ_fit lax))) (fun _ => rfl) rfl rfl ?_
        refine DChG.op rfl (fun _ => q_loadAgg rfl rfl rfl rfl rfl) (fun _ => rfl) rfl rfl ?_
        refine DChG.op rfl (fun _ => q_call rfl rfl (hdiv)) (fun _ => rfl) rfl rfl ?_
        refine DChG.op rfl (fun _ => q_move rfl) (fun _ => rfl) rfl rfl ?_
        refine DChG.op rfl (fun _ => q_extract rfl rfl) (fun _ => rfl) rfl rfl ?_
        refine DChG.op rfl (fun _ => q_extract rfl rfl) (fun _ => rfl) rfl rfl ?_
        refine DChG.op rfl (fun _ => q_extract rfl rfl) (fun _ => rfl) rfl rfl ?_
        refine .al rfl rfl rfl rfl (fun _ => rfl) rfl rfl rfl ?_
        refine .al rfl rfl rfl rfl (fun _ => rfl) rfl rfl rfl ?_
        refine .sp (j := 9) rfl rfl rfl rfl rfl rfl rfl (fun _ => rfl) rfl rfl rfl (by kernel_rfl) ?_
        refine .sp (j := 10) rfl rfl rfl rfl rfl rfl rfl (fun _ => rfl) rfl rfl rfl (by kernel_rfl) ?_
        refine .nil (fun hG => AOps.fixed (as' := [(9, 24, 25, [.bool (decide ((a - wrapZ n s a).tdiv (P2 n) < 0)), numD ((a - wrapZ n s a).tdiv (P2 n)).natAbs]), (10, 25, 25, [.bool (decide ((0 : Int) < 0)), numD (0 : Int).natAbs])]) rfl ?_)
        refine y_op rfl (q_assign rfl) ?_
        refine AOps.nil ?_
        refine ARun.seq ?_
        refine ARun.region ?_
        refine y_op rfl (q_call rfl rfl (pc_w_FromInt 1 (by decide) (by decide))) ?_
        refine y_op rfl (q_move rfl) ?_
        refine y_op rfl (q_sub rfl rfl (nsub1_i64 (by omega) (by omega))) ?_
        refine y_op rfl (q_call rfl rfl (w_Shift1 (n := n - 1) (by omega))) ?_
        refine y_op rfl (q_move rfl) ?_
        refine y_op rfl (q_extract rfl rfl) ?_
        refine y_op rfl (q_extract rfl rfl) ?_
        refine y_allocF rfl rfl rfl rfl rfl rfl rfl rfl rfl rfl rfl ?_
        refine y_op rfl (q_assign rfl) ?_
        refine AOps.nil ?_
        refine ARun.seq ?_
        refine ARun.join (S := Bool) (fun t : Bool => [(151, .any), (152, .any), (153, .any), (154, .any), (155, .any), (156, .any), (157, .any), (158, .any), (159, .any), (29, .bool t)]) (fun t : Bool => s = false → t = true) (fun run => ?_) ?_
        · skip
          refine ARun.region ?_
          refine y_op rfl (q_fldS rfl rfl rfl (by decide)) ?_
          refine y_op rfl (q_load rfl rfl rfl rfl) ?_
          refine y_op rfl (q_not rfl) ?_
          refine y_op rfl (q_move rfl) ?_
          refine AOps.bool 154 rfl (fun c1 => ?_) (fun c1 => ?_)
          · skip
            have c1 : ¬ wrapZ n s a < 0 := by simpa using c1
            refine y_op rfl (q_loadAgg rfl rfl rfl rfl rfl) ?_
            refine y_op rfl (q_loadAgg rfl rfl rfl rfl rfl) ?_
            refine y_op rfl (q_call rfl rfl (pc_l_cmp (wrapZ n s a) (P2 n) (lnZ_fit lx) (lnZ_fit lM))) ?_
            refine y_op rfl (q_int rfl rfl rfl) ?_
            refine y_op rfl (q_pick rfl rfl rfl rfl) ?_
            refine y_op rfl (q_assign rfl) ?_
            refine AOps.nil ?_
            exact ARun.again (run (decide (cmpZ (wrapZ n s a) (P2 n) < 0)) (fun h => by subst h; rw [show cmpZ (wrapZ n false a) (P2 n) = -1 by unfold cmpZ; rw [if_pos wrapZ_u.2]]; rfl)) (by (repeat' first | exact envLe_nil | apply envLe_any | apply envLe_same)) rfl
          · skip
            have c1 : wrapZ n s a < 0 := by simpa using c1
            refine y_skip rfl ?_
            refine y_skip rfl ?_
            refine y_skip rfl ?_
            refine y_skip rfl ?_
            refine y_op rfl (q_pick rfl rfl rfl rfl) ?_
            refine y_op rfl (q_assign rfl) ?_
            refine AOps.nil ?_
            exact ARun.again (run (false) (fun h => by subst h; have := (wrapZ_u (n := n) (a := a)).1; omega)) (by (repeat' first | exact envLe_nil | apply envLe_any | apply envLe_same)) rfl
        · rintro t hj
          try dsimp only at hj ⊢
          refine ARun.seq ?_
          refine ARun.seq ?_
          refine ARun.region ?_
          refine y_op rfl (q_move rfl) ?_
          refine AOps.nil ?_
          refine ARun.join (S := Bool) (fun u : Bool => [(161, .any), (162, .any), (163, .any), (164, .any), (165, .any), (166, .any), (167, .any), (168, .any), (169, .any), (170, .any), (171, .any), (172, .any), (29, .bool u)]) (fun u : Bool => u = true) (fun run => ?_) ?_
          · skip
            refine ARun.cond rfl (fun c2 => ?_) (fun c2 => ?_)
            · skip
              subst c2
              have hs := wrapZ_s (a := a) hn1
              refine ARun.region ?_
              refine y_op rfl (q_loadAgg rfl rfl rfl rfl rfl) ?_
              refine y_op rfl (q_loadAgg rfl rfl rfl rfl rfl) ?_
              refine y_op rfl (q_call rfl rfl (pc_l_cmp (wrapZ n true a) (P2 (n - 1)) (lnZ_fit lx) (lnZ_fit lH))) ?_
              refine y_op rfl (q_intB (b := true) rfl rfl rfl (by unfold cmpZ; rw [if_pos hs.2]; rfl)) ?_
              refine y_op rfl (q_move rfl) ?_
              refine y_op rfl (q_loadAgg rfl rfl rfl rfl rfl) ?_
              refine y_op rfl (q_loadAgg rfl rfl rfl rfl rfl) ?_
              refine y_op rfl (q_call rfl rfl (pc_l_add (wrapZ n true a) (P2 (n - 1)) (lnZ_fit lx) (lnZ_fit lH) (lnZ_fit lxH))) ?_
              refine y_op rfl (q_call rfl rfl (pc_w_FromInt 0 (by decide) (by decide))) ?_
              refine y_op rfl (q_call rfl rfl (pc_l_cmp (wrapZ n true a + P2 (n - 1)) 0 (lnZ_fit lxH) (lnZ_fit lnZ_0))) ?_
              refine y_op rfl (q_intB (b := true) rfl rfl rfl (decide_eq_true (by unfold cmpZ; rw [if_neg (by omega)]; split <;> omega))) ?_
              refine y_op rfl (q_pick rfl rfl rfl rfl) ?_
              refine y_op rfl (q_assign rfl) ?_
              refine AOps.nil ?_
              exact ARun.again (run (true) (rfl)) (by (repeat' first | exact envLe_nil | apply envLe_any | apply envLe_same)) rfl
            · skip
              obtain rfl := hj c2
              refine ARun.skip ?_
              exact ARun.again (run (true) (rfl)) (by (repeat' first | exact envLe_nil | apply envLe_any | apply envLe_same)) rfl
          · rintro u hj
            try dsimp only at hj ⊢
            subst hj
            refine ARun.seq ?_
            refine ARun.region ?_
            refine y_op rfl (q_move rfl) ?_
            refine y_op rfl (q_move rfl) ?_
            refine y_op rfl (q_move rfl) ?_
            refine y_op rfl (q_intEqT rfl rfl rfl) ?_
            refine y_op rfl (q_pick rfl rfl rfl rfl) ?_
            refine y_op rfl (q_move rfl) ?_
            refine y_op rfl (q_move rfl) ?_
            refine y_op rfl (q_intEqT rfl rfl rfl) ?_
            refine y_op rfl (q_pick rfl rfl rfl rfl) ?_
            refine y_op rfl (q_move rfl) ?_
            refine y_op rfl (q_move rfl) ?_
            refine y_op rfl (q_intEqT rfl rfl rfl) ?_
            refine y_op rfl (q_pick rfl rfl rfl rfl) ?_
            refine y_op rfl (q_move rfl) ?_
            refine y_op rfl (q_fldS rfl rfl rfl (by decide)) ?_
            refine y_op rfl (q_load rfl rfl rfl rfl) ?_
            refine y_op rfl (q_lenSl rfl rfl) ?_
            refine y_op rfl (q_intEqT rfl rfl (by rw [z0]; rfl)) ?_
            refine y_op rfl (q_pick rfl rfl rfl rfl) ?_
            refine y_op rfl (q_move rfl) ?_
            refine y_op rfl (q_move rfl) ?_
            refine y_op rfl (q_pick rfl rfl rfl rfl) ?_
            refine y_op rfl (q_assign rfl) ?_
            refine AOps.nil ?_
            refine ARun.ret ?_
            refine ⟨_, _, _, .tmp rfl .nil, .cons (.same _) .nil, rfl, ?_⟩
            rfl
end Go.V
/- THE ROWS: what the arguments read as, and what is left behind a call. -/
set_option maxRecDepth 100000
namespace Go.V
open Go.RowKit Go.Proofs Go.ChangeShapes Go.WideShapes Go.ChangeAt Go.ChangeMaps
theorem laidOutZ : laidOutB Tryz.prog = true := by kernel_rfl
theorem ownZ : ownKnob Tryz.prog.godebug = none := by kernel_rfl
theorem cell_lt {w : World} {a : Addr} {v : Value} (h : w.cell? a = some v) : a.block < w.heap.size := by
  apply Classical.byContradiction
  intro hn
  have : w.heap[a.block]? = none := by rw [Array.getElem?_eq_none_iff]; omega
  simp [World.cell?, this] at h
theorem SR0 (W : World) : SR C (fun _ => False) W [] [] :=
  ⟨rfl, fun i o b h => by simp at h, fun i j oi oj b h => by simp at h, fun i o b h => by simp at h, fun b h => h.elim, fun g cs h => by cases h⟩
theorem forb0 : forb (fun _ => False) [] [] = fun _ => False := by
  funext b
  apply propext
  constructor
  · rintro (h | ⟨i, o, h, _⟩)
    · exact h
    · simp at h
  · exact fun h => h.elim
section
variable {H : Type} {enc : TypeId × Value → H} {W : World}
theorem vr_limbs {fuel : Nat} {cs : List Value} {x : DataW H × List MemPlace} (h : DataW.trod enc Tryz.prog W 0 (fun _ => true) true fuel 23 cs = some x) :
    ∃ (v : Value) (xs : List Nat), cs = [v] ∧ U32 xs ∧ VR W (fun _ => False) [] [] (sln .u32 xs) v := by
  rcases open_ints Tryz.underlying23 Tryz.underlying54 (by kernel_rfl) h with ⟨rfl, _⟩ | ⟨a, len, cap, zs, rfl, _, hl, hm, hz, _, hcell, hwf⟩
  · refine ⟨_, [], rfl, fun _ h => (by cases h), ?_⟩
    simp only [VR]
    exact ⟨none, 0, rfl, Nat.le_refl _, Nat.zero_le _, fun h => (h rfl).elim⟩
  · simp only [if_true] at hz
    have hb : ∀ n ∈ zs, 0 ≤ n ∧ n < 4294967296 := by
      intro n hn
      have := hwf n hn
      simp [Lit.wf, IntKind.min, IntKind.max, IntKind.signed, IntKind.bits] at this
      omega
    have hu : U32 ((zs.take len).map Int.toNat) := by
      intro y hy
      obtain ⟨n, hn, rfl⟩ := List.mem_map.1 hy
      have := hb n (List.mem_of_mem_take hn)
      show n.toNat < 4294967296
      omega
    have hlen : ((zs.take len).map Int.toNat).length = len := by rw [List.length_map, List.length_take]; omega
    refine ⟨_, (zs.take len).map Int.toNat, rfl, hu, ?_⟩
    have hget : ∀ j : Nat, j < len → nts .u32 ((zs.take len).map Int.toNat) = nts .u32 ((zs.take len).map Int.toNat) → ((nts .u32 ((zs.take len).map Int.toNat))[j]? = some (.int .u32 (zs.getD j 0))) := by
      intro j hj _
      have hjz : j < zs.length := by omega
      have hn := hb (zs[j]'hjz) (List.getElem_mem hjz)
      simp only [nts, List.map_map, List.getElem?_map, List.getElem?_take, if_pos hj, List.getElem?_eq_getElem hjz, Option.map_some, Function.comp, List.getD_eq_getElem?_getD, Option.getD_some]
      congr 2
      omega
    simp only [VR]
    refine ⟨some a, cap, by rw [hlen], by rw [hlen]; exact hl, hm, fun hne => ⟨a, rfl, ?_, id, VRL_mk fun j d hd => ?_⟩⟩
    · have h0 : 0 < zs.length := by
        rcases Nat.eq_zero_or_pos zs.length with h | h
        · have : zs = [] := List.eq_nil_of_length_eq_zero h
          subst this
          simp [nts] at hne
        · exact h
      exact cell_lt (hcell 0 h0)
    · have hj : j < len := by
        have := (List.getElem?_eq_some_iff.1 hd).1
        simp only [nts, List.length_map, List.length_take] at this
        omega
      rw [hget j hj rfl] at hd
      injection hd with hd
      subst hd
      exact ⟨_, by rw [Nat.zero_add]; exact hcell j (by omega), rfl, by simp only [VR]⟩
theorem vr_Int {base : Nat} {v : Value} {d : DataW H} {p : List MemPlace} (hv : Value.okWide Tryz.prog W .any base 25 v) (h : DataW.Trod enc Tryz.prog W 0 (fun _ => true) true 25 v d p) :
    ∃ e : Bool × List Nat, U32 e.2 ∧ VR W (fun _ => False) [] [] (.agg [.bool e.1, sln .u32 e.2]) v := by
  obtain ⟨cs, rfl, hsz⟩ := okWide_struct Tryz.underlying25 hv
  obtain ⟨fuel, hf⟩ := h
  obtain ⟨y0, y1, n, _, hl, h0, h1⟩ := trod_struct2 Tryz.underlying25 hf
  have c25 : Tryz.prog.cellsOf 25 = 2 := by kernel_rfl
  have c4 : Tryz.prog.cellsOf 4 = 1 := by kernel_rfl
  have c23 : Tryz.prog.cellsOf 23 = 1 := by kernel_rfl
  rw [c25] at hsz
  obtain ⟨l⟩ := cs
  match l, hsz with
  | [c0, c1], _ =>
    simp only [Value.cells] at h0 h1
    rw [c4] at h0
    rw [c23] at h1
    obtain ⟨b, e0, _⟩ := DataW.trod_bool Tryz.underlying4 h0
    obtain ⟨v1, xs, e1, hu, hx⟩ := vr_limbs h1
    simp at e0 e1
    subst e0; subst e1
    refine ⟨(b, xs), hu, ?_⟩
    simp only [VR, VRs]
    refine ⟨[.bool b, c1], rfl, .bool b, [c1], rfl, rfl, c1, [], rfl, ?_, rfl⟩
    simpa only [VR] using hx
theorem vr_int {base : Nat} {v : Value} {d : DataW H} {p : List MemPlace} (hv : Value.okWide Tryz.prog W .any base 3 v) (h : DataW.Trod enc Tryz.prog W 0 (fun _ => true) true 3 v d p) :
    ∃ n : Int, -9223372036854775808 ≤ n ∧ n ≤ 9223372036854775807 ∧ VR W (fun _ => False) [] [] (.int .i64 n) v := by
  obtain ⟨n, rfl, _, _, hw⟩ := open_int Tryz.underlying3 hv h
  simp [Lit.wf, IntKind.min, IntKind.max, IntKind.signed, IntKind.bits] at hw
  exact ⟨n, by omega, by omega, by simp only [VR]⟩
theorem vr_bool {base : Nat} {v : Value} {d : DataW H} {p : List MemPlace} (hv : Value.okWide Tryz.prog W .any base 4 v) (h : DataW.Trod enc Tryz.prog W 0 (fun _ => true) true 4 v d p) :
    ∃ b : Bool, VR W (fun _ => False) [] [] (.bool b) v := by
  obtain ⟨b, rfl, _, _⟩ := open_bool Tryz.underlying4 hv h
  exact ⟨b, by simp only [VR]⟩
theorem trodAll_stays {W' : World} (hb : Below W.heap.size W W') {sp : Nat → Bool} : ∀ {ts : List TypeId} {vs : List Value} {ds : List (DataW H)} {p : List MemPlace}, (∀ t ∈ ts, Tryz.prog.readableRec t = true ∧ t < Tryz.prog.types.size) →
    DataW.TrodAll enc Tryz.prog W 0 (fun _ => true) true ts vs ds p → (∀ x ∈ p, x.block < W.heap.size ∧ sp x.block = true) → DataW.TrodAll enc Tryz.prog W' 0 sp true ts vs ds p
  | [], _, _, _, _, h, _ => by
    obtain ⟨rfl, rfl, rfl⟩ := trodAll_nil h
    simp [DataW.TrodAll]
  | t :: ts, _, _, _, ht, h, hp => by
    obtain ⟨v, vs, d, ds, a, b, rfl, rfl, rfl, h1, h2⟩ := trodAll_cons h
    obtain ⟨r1, r2⟩ := ht t (List.mem_cons_self ..)
    exact ⟨a, b, WideElems.Trod_stays laidOutZ r1 r2 h1 (fun x hx => hb.same (hp x (List.mem_append_left _ hx)).1) (fun x hx => (hp x (List.mem_append_left _ hx)).2),
      trodAll_stays hb (fun t ht' => ht t (List.mem_cons_of_mem _ ht')) h2 (fun x hx => hp x (List.mem_append_right _ hx)), rfl⟩
theorem law_post {fn : Func} {s : ChangeSpec} {W' : World} {args : Array Value} {ds : List (DataW H)} {before : List MemPlace} (hs : s.vars = []) (hW : DataW.Whole enc Tryz.prog fn.params.toList s.vars false W args.toList ds [] before) (hf : s.fn H ds = { results := [.lit (.bool true)], args := ds })
    (hr : fn.resultTypes = #[4]) (hts : ∀ t ∈ fn.params.toList, Tryz.prog.readableRec t = true ∧ t < Tryz.prog.types.size) (hb : Below W.heap.size W W') : s.post enc Tryz.prog fn false true false false W args (.bool true) W' := by
  have hW' := hW
  obtain ⟨p, q, hA, hV, rfl, _, _⟩ := hW
  rw [hs] at hV
  obtain ⟨_, rfl⟩ := trodVars_none hV
  have hlt : ∀ x ∈ p, x.block < W.heap.size := fun x hx => by simpa using hW'.lt x (List.mem_append_left _ hx)
  refine ⟨ds, [], p ++ [], [], p, [], hW', ?_, ?_, ?_, hb.frame _, fun h => by cases h⟩
  · rw [List.append_nil, hf, hr]
    exact trodAll_mk1 (shut_bool Tryz.underlying4 _)
  · rw [List.append_nil, hf]
    exact trodAll_stays hb hts hA fun x hx => ⟨hlt x hx, by simpa using hlt x hx⟩
  · rw [List.append_nil, hf, hs]
    rfl
end
/-- A law's call, out of its contract. -/
theorem law_calls {f : FuncId} {ds : List D} {W : World} {vs : List Value} (hc : PC C f ds (fun o => o = .ret (.bool true))) (hv : VRs W (fun _ => False) [] [] ds vs) : Calls Tryz.prog f vs.toArray W fun e W' => e = .returned (.bool true) ∧ Below W.heap.size W W' := by
  have h := (hc []).2 (fun _ => False) W [] vs (SR0 W) (by rw [forb0]; exact hv)
  refine h.mono ?_
  rintro e W' ⟨o, H', μ', ⟨rfl, rfl⟩, _, ⟨v, he, hv'⟩, hevo⟩
  simp only [VR] at hv'
  subst hv'
  exact ⟨he, hevo.os, hevo.tape, hevo.output, hevo.size, fun k hk => hevo.chg k hk fun ⟨i, o, h, _⟩ => by simp at h⟩
end Go.V
/- The closed facts of a row, one by one: what holds of the program itself, and how they are joined; no condition. -/
set_option maxRecDepth 100000
namespace Go.V
open Go.Proofs
theorem and_t {a b : Bool} (h1 : a = true) (h2 : b = true) : (a && b) = true := by rw [h1, h2]; rfl
theorem joined_of {P : Program} {f : FuncId} {fn : Func} {s : ChangeSpec} {c : OpenClaim}
    (k1 : (c.wf (OpenSpec.ofChange s)) = true)
    (k2 : (laidOutB P) = true)
    (k3 : (mapsRowed P) = true)
    (k4 : (fn.params.all (P.readableRec ·)) = true)
    (k5 : (namedTie P c.named s.vars) = true)
    (k6 : (c.stops == []) = true)
    (k7 : (P.stops == []) = true)
    (k8 : (c.knobs == []) = true)
    (k9 : (P.stopKnobs == []) = true)
    (k10 : (c.inPlace == P.inPlace f) = true)
    (k11 : (c.unfollowed == P.unfollowed f) = true)
    (k12 : (c.recurses == P.recurses f) = true)
    (k13 : (c.named == P.varsNamed f) = true)
    (k14 : ((c.maps == (fn.params.toList ++ s.plain.varTypes P).any (P.mapsRec ·))) = true)
    (k15 : ((c.ifaces == (fn.params.toList ++ s.plain.varTypes P).any (P.ifacesRec ·))) = true)
    (k16 : (c.mapsOut == P.mapsAmong fn.resultTypes.toList) = true)
    (k17 : ((c.loops == (fn.params.toList ++ s.plain.varTypes P).any (P.loopsFrom ·))) = true)
    (k18 : ((c.wideKeys == (fn.params.toList ++ s.plain.varTypes P ++ fn.resultTypes.toList).any (P.wideKeysFrom ·))) = true)
    (k19 : (s.vars.all (P.varReadable ·)) = true)
    (k20 : (fn.resultTypes.all (fun t => P.readableRec t && decide (t < P.types.size))) = true)
    (k21 : ((c.ifacesOut == fn.resultTypes.toList.any (P.ifacesRec ·))) = true)
    (k22 : ((c.loopsOut == fn.resultTypes.toList.any (P.loopsFrom ·))) = true)
    (k23 : (c.plainKeys == P.plainKeys) = true)
    (k24 : (c.shortTexts.isNone) = true)
    (k25 : (P.stopsHeard) = true)
    (k26 : (P.mayEnter) = true)
    (k27 : (c.lifted == P.liftsFinal) = true)
    (k28 : (P.make == some c.make) = true)
    (k29 : ((c.kinds == (if c.domain.isEmpty then [] else fn.params.toList.map fun t => match P.underlying t with | some (.int k) => some k | _ => none))) = true)
    (k30 : (c.pinned == c.pinnedBy) = true)
    (k31 : ((c.veiled == (fn.params.toList ++ s.plain.varTypes P ++ fn.resultTypes.toList).any (P.veiledRec ·))) = true)
    (k32 : (c.veiledFits P fn.params.toList (fn.params.toList ++ s.plain.varTypes P ++ fn.resultTypes.toList)) = true)
    : joinedFacts P f fn s c = true := by
  unfold joinedFacts
  exact and_t (and_t (and_t (and_t (and_t (and_t (and_t (and_t (and_t (and_t (and_t (and_t (and_t (and_t (and_t (and_t (and_t (and_t (and_t (and_t (and_t (and_t (and_t (and_t (and_t (and_t (and_t (and_t (and_t (and_t (and_t k1 k2) k3) k4) k5) k6) k7) k8) k9) k10) k11) k12) k13) k14) k15) k16) k17) k18) k19) k20) k21) k22) k23) k24) k25) k26) k27) k28) k29) k30) k31) k32
theorem z_maps : mapsRowed Tryz.prog = true := by kernel_rfl
theorem z_plainKeys : (Go.Proofs.YtjohcjagbodicaaGreatDoor.Rows.wholeSumsRow.plainKeys == Tryz.prog.plainKeys) = true := by kernel_rfl
theorem z_stopsHeard : Tryz.prog.stopsHeard = true := by kernel_rfl
theorem z_lifts : (Go.Proofs.YtjohcjagbodicaaGreatDoor.Rows.wholeSumsRow.lifted == Tryz.prog.liftsFinal) = true := by kernel_rfl
theorem z_make : (Tryz.prog.make == some Go.Proofs.YtjohcjagbodicaaGreatDoor.Rows.wholeSumsRow.make) = true := by kernel_rfl
theorem z_main : YtjohcjagbodicaaGreatDoor.Tryz.pinned.checked.prog.mainIs = some (true, "5b8a1e8da34a88fc5bd34c331ad38cb7b46866bf85af6ffc6bc920dabf7d6da1".toList) := by kernel_rfl
theorem z_looks : true = Tryz.prog.looks [] := by kernel_rfl
theorem z_enter : Tryz.prog.mayEnter = true := by kernel_rfl
end Go.V
