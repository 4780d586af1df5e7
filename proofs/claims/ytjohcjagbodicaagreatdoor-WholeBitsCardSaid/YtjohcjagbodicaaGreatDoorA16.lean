/- A part of the proof: abstract values, rules for the steps of the program's form, and contracts of its functions, each proved; no condition. -/
import Derived.Test.YtjohcjagbodicaaGreatDoorA15
set_option linter.unusedVariables false
set_option linter.unusedSimpArgs false
/- THE FOUR WAYS OF DIVISION: what quotients and rests satisfy: plain Lean. -/
namespace Go.V
theorem divW_abs {a b : Int} (h0 : b ≠ 0) (w : Bool) : divW w a b = if a.natAbs % b.natAbs = 0 ∨ w = false then (sgnd (!(decide (a < 0) == decide (b < 0))) (a.natAbs / b.natAbs), sgnd (decide (a < 0)) (a.natAbs % b.natAbs)) else (sgnd (!(decide (a < 0) == decide (b < 0))) (a.natAbs / b.natAbs + 1), sgnd (!(decide (a < 0))) (b.natAbs - a.natAbs % b.natAbs)) := by
  unfold divW
  rw [← sgnd_tdiv, ← sgnd_tmod]
  have hz : (sgnd (decide (a < 0)) (a.natAbs % b.natAbs) = 0) ↔ a.natAbs % b.natAbs = 0 := by
    cases decide (a < 0) <;> simp only [sgnd, cond_true, cond_false] <;> omega
  have hlt : a.natAbs % b.natAbs < b.natAbs := Nat.mod_lt _ (by omega)
  by_cases h : a.natAbs % b.natAbs = 0 ∨ w = false
  · rw [if_pos h, if_pos (by rw [hz]; exact h)]
  · rw [if_neg h, if_neg (by rw [hz]; exact h)]
    unfold stepZ
    refine Prod.ext ?_ ?_
    · dsimp only
      cases (!(decide (a < 0) == decide (b < 0))) <;> simp only [sgnd, cond_true, cond_false] <;> omega
    · dsimp only
      cases decide (a < 0) <;> simp only [sgnd, cond_true, cond_false, Bool.not_true, Bool.not_false] <;> omega
structure DvF (k a b q r : Int) : Prop where
  e : q * b + r = a
  lt : r.natAbs < b.natAbs
  f1 : k = 1 → r ≠ 0 → decide (r < 0) = decide (a < 0)
  f2 : k = 2 → r ≠ 0 → decide (r < 0) = decide (b < 0)
  f3 : k = 3 → ¬ r < 0
  f4 : k = 4 → 2 * r.natAbs < b.natAbs ∨ (2 * r.natAbs = b.natAbs ∧ q.natAbs % 2 = 0)
  lq : q.natAbs ≤ a.natAbs + 1
theorem divW_facts {a b : Int} (h0 : b ≠ 0) (k : Int) : DvF k a b (divW (awayZ k (a.tdiv b) (a.tmod b) a b) a b).1 (divW (awayZ k (a.tdiv b) (a.tmod b) a b) a b).2 := by
  have he := divW_rest (a := a) (b := b) (awayZ k (a.tdiv b) (a.tmod b) a b)
  have hlt : a.natAbs % b.natAbs < b.natAbs := Nat.mod_lt _ (by omega)
  have hT : a.natAbs / b.natAbs ≤ a.natAbs := Nat.div_le_self _ _
  have haw : awayZ k (a.tdiv b) (a.tmod b) a b = (if k = 2 then !(decide (a < 0) == decide (b < 0)) else if k = 3 then decide (a < 0) else if k = 4 then decide (b.natAbs < 2 * (a.natAbs % b.natAbs)) || (decide (2 * (a.natAbs % b.natAbs) = b.natAbs) && decide (a.natAbs / b.natAbs % 2 = 1)) else false) := by
    unfold awayZ
    rw [abs_tmod, Int.natAbs_tdiv]
    rfl
  rw [divW_abs h0, haw] at he ⊢
  generalize a.natAbs % b.natAbs = M at hlt he ⊢
  generalize a.natAbs / b.natAbs = T at hT he ⊢
  generalize hw : (if k = 2 then !(decide (a < 0) == decide (b < 0)) else if k = 3 then decide (a < 0) else if k = 4 then decide (b.natAbs < 2 * M) || (decide (2 * M = b.natAbs) && decide (T % 2 = 1)) else false) = w at he ⊢
  have hw1 : k = 1 → w = false := fun hk => by subst hk; exact hw.symm
  have hw2 : k = 2 → w = !(decide (a < 0) == decide (b < 0)) := fun hk => by subst hk; exact hw.symm
  have hw3 : k = 3 → w = decide (a < 0) := fun hk => by subst hk; exact hw.symm
  have hw4 : k = 4 → w = (decide (b.natAbs < 2 * M) || (decide (2 * M = b.natAbs) && decide (T % 2 = 1))) := fun hk => by subst hk; exact hw.symm
  clear hw haw
  by_cases hc : M = 0 ∨ w = false
  · rw [if_pos hc] at he ⊢
    dsimp only at he ⊢
    refine ⟨by omega, by rw [sgnd_abs]; exact hlt, fun hk hr => ?_, fun hk hr => ?_, fun hk => ?_, fun hk => ?_, by rw [sgnd_abs]; omega⟩
    · have hM : 0 < M := by
        rcases Nat.eq_zero_or_pos M with h | h
        · subst h; cases decide (a < 0) <;> simp [sgnd] at hr
        · exact h
      rw [sgnd_neg, decide_eq_true hM, Bool.and_true]
    · have hM : 0 < M := by
        rcases Nat.eq_zero_or_pos M with h | h
        · subst h; cases decide (a < 0) <;> simp [sgnd] at hr
        · exact h
      have h1 : w = false := hc.resolve_left (by omega)
      rw [hw2 hk] at h1
      rw [sgnd_neg, decide_eq_true hM, Bool.and_true]
      simpa using h1
    · rcases hc with h | h
      · subst h; cases decide (a < 0) <;> simp [sgnd]
      · rw [hw3 hk] at h
        rw [h]; simp only [sgnd, cond_false]; omega
    · rw [sgnd_abs, sgnd_abs]
      rcases hc with h | h
      · omega
      · rw [hw4 hk] at h
        simp only [Bool.or_eq_false_iff, Bool.and_eq_false_iff, decide_eq_false_iff_not] at h
        omega
  · rw [if_neg hc] at he ⊢
    dsimp only at he ⊢
    have hM : ¬ M = 0 := fun e => hc (.inl e)
    have hwt : w = true := by cases w with | true => rfl | false => exact (hc (.inr rfl)).elim
    refine ⟨by omega, by rw [sgnd_abs]; omega, fun hk hr => ?_, fun hk hr => ?_, fun hk => ?_, fun hk => ?_, by rw [sgnd_abs]; omega⟩
    · rw [hw1 hk] at hwt; cases hwt
    · rw [hw2 hk] at hwt
      rw [sgnd_neg, show decide (0 < b.natAbs - M) = true from decide_eq_true (by omega), Bool.and_true]
      revert hwt
      cases decide (a < 0) <;> cases decide (b < 0) <;> simp
    · rw [hw3 hk] at hwt
      rw [hwt]; simp only [sgnd, Bool.not_true, cond_false]; omega
    · rw [sgnd_abs, sgnd_abs]
      rw [hw4 hk] at hwt
      simp only [Bool.or_eq_true, Bool.and_eq_true, decide_eq_true_eq] at hwt
      omega
end Go.V
set_option maxHeartbeats 8000000
set_option maxRecDepth 100000
set_option synthInstance.maxSize 100000
set_option synthInstance.maxHeartbeats 2000000
namespace Go.V
open Go.RowKit Go.Proofs
end Go.V
set_option maxHeartbeats 8000000
set_option maxRecDepth 100000
set_option synthInstance.maxSize 100000
set_option synthInstance.maxHeartbeats 2000000
namespace Go.V
open Go.RowKit Go.Proofs
end Go.V
set_option maxHeartbeats 4000000
set_option maxRecDepth 100000
set_option synthInstance.maxSize 100000
set_option synthInstance.maxHeartbeats 2000000
namespace Go.V
open Go.RowKit Go.Proofs
theorem numD_zero : numD 0 = .sl 0 [] := by rw [numD, lim_zero]; rfl
theorem lenN_zero_iff {n : Nat} : (((lim n).length : Int) == 0) = decide (n = 0) := by
  rw [Bool.eq_iff_iff, beq_iff_eq, decide_eq_true_iff]
  have := @ln_pos n
  constructor
  · intro h
    apply Classical.byContradiction
    intro hn
    have := this.2 hn
    omega
  · rintro rfl; rw [lim_zero]; rfl
def shlR (a n : Nat) : Nat × Int := if a = 0 then (0, 0) else if n ≤ 32768 ∧ (lim (a * 2 ^ n)).length ≤ 1024 then (a * 2 ^ n, 0) else (0, 2)
theorem ZiU (a n : Nat) (ha : (lim a).length ≤ 1024) (hn : n ≤ 9223372036854775807) : PC C Zkz [numD a, .int .i64 (n : Int)] (fun o => o = .ret (.tup [numD (shlR a n).1, .int .i64 (shlR a n).2])) := by
  have pan : ∀ (e : Int) (env : List D), env[4]? = some .nilsl → env[5]? = some (.ptr 0 0) → shlR a n = (0, e) → (QFin C [.tmp 4, .cell 5 Zar] fun o x => o.pure = true ∧ o = .ret (.tup [numD (shlR a n).1, .int .i64 (shlR a n).2])) (.pan (failN e)) env [some ⟨[.int .i64 0], Zar, 1, true, none⟩] [.fn ZaF [.ptr 0 0]] := by
    intro e env h4 h5 hr
    refine DC.mono (dc0_caught_pan 0 e) ?_
    rintro _ _ ⟨rfl, rfl⟩
    exact ⟨_, _, _, .tmp h4 (ResR.cell1 h5 rfl rfl rfl rfl .nil), .cons .nil (.cons (.same _) .nil), rfl, by rw [hr, numD_zero]; rfl⟩
  refine PC.run ZiA ZmE rfl ZmF rfl (rs := [.tmp 4, .cell 5 28]) (by rw [ZmG]) (by simp only [List.length_cons, List.length_nil, Nat.reduceAdd, Nat.reduceSub, List.replicate_succ, List.replicate_zero, List.cons_append, List.nil_append]; exact rfl) ?_
  refine ARun.seq (ARun.region ?_)
  refine y_op rfl (Zaa rfl) ?_
  refine y_new rfl (Zag rfl rfl rfl rfl) ?_
  refine AOps.nil (ARun.seq (ARun.region ?_))
  refine Zdl rfl rfl rfl ?_
  refine AOps.nil (ARun.seq (ARun.region ?_))
  refine y_op rfl (q_move rfl) ?_
  refine y_op rfl (Zaq rfl rfl rfl rfl rfl rfl rfl rfl rfl rfl rfl (by decide) (by decide) rfl) ?_
  refine y_gop rfl (g_call rfl rfl (PC.gp (ZbC [lim a] 1 rfl))) (fun _ => ?_) (fun q hq => by obtain ⟨hq, rfl⟩ := hq; simp only [List.all_cons, List.all_nil, Bool.and_true, okB_lim ha] at hq; cases hq)
  refine AOps.nil (ARun.seq (ARun.region ?_))
  refine y_op rfl (q_move rfl) ?_
  refine y_op rfl (q_intB (b := true) rfl rfl rfl (decide_eq_true (by omega))) ?_
  refine y_gop rfl (g_call rfl rfl (PC.gp (Zba _ 1))) (fun _ => ?_) (fun q hq => by obtain ⟨hq, rfl⟩ := hq; cases hq)
  refine AOps.nil (ARun.seq (ARun.seq (ARun.region ?_)))
  refine y_op rfl (q_move rfl) ?_
  refine y_op rfl (Zad rfl rfl) ?_
  refine y_op rfl (q_intB (b := decide (a = 0)) rfl rfl rfl lenN_zero_iff) ?_
  refine AOps.nil ?_
  refine ARun.ite rfl (fun h0 => ?_) (fun h0 => ?_)
  · skip
    refine ARun.seq (ARun.region ?_)
    refine y_op rfl (Zaa rfl) ?_
    refine y_new rfl (Zai rfl rfl rfl rfl rfl rfl (Nat.le_of_ble_eq_true rfl) rfl) ?_
    refine AOps.nil ?_
    refine ARun.ret ?_
    refine DC.mono (dc0_caught_ret 0) ?_
    rintro _ _ ⟨rfl, rfl⟩
    exact ⟨_, _, _, .tmp rfl (ResR.cell1 rfl rfl rfl rfl rfl .nil), .cons .nil (.cons (.same _) .nil), rfl, by unfold shlR; rw [if_pos h0, numD_zero]; rfl⟩
  · skip
    refine ARun.skip (ARun.seq (ARun.region ?_))
    refine y_op rfl (q_move rfl) ?_
    refine y_op rfl (q_intB (b := decide (n ≤ 32768)) rfl rfl rfl (decide_eq_decide.2 (by omega))) ?_
    refine y_gop rfl (g_call rfl rfl (PC.gp (Zba _ 2))) (fun hg => ?_) (fun q hq => by obtain ⟨hq, rfl⟩ := hq; exact pan 2 _ rfl rfl (by have hq : ¬ n ≤ 32768 := of_decide_eq_false hq; unfold shlR; rw [if_neg h0, if_neg (fun h => hq h.1)]))
    have hg : n ≤ 32768 := of_decide_eq_true hg
    refine AOps.nil (ARun.seq (ARun.region ?_))
    refine y_op rfl (q_move rfl) ?_
    refine y_op rfl (q_move rfl) ?_
    refine y_op rfl (q_call rfl rfl (Zbc a n (by omega) (by omega))) ?_
    refine y_gop rfl (g_call rfl rfl (PC.gp (ZbD (a * 2 ^ n)))) (fun hf => ?_) (fun q hq => by obtain ⟨hq, rfl⟩ := hq; exact pan 2 _ rfl rfl (by unfold shlR; rw [if_neg h0, if_neg (fun h => hq h.2)]))
    refine y_op rfl (Zaa rfl) ?_
    refine y_new rfl (Zai rfl rfl rfl rfl rfl rfl (Nat.le_of_ble_eq_true rfl) rfl) ?_
    refine AOps.nil ?_
    refine ARun.ret ?_
    refine DC.mono (dc0_caught_ret 0) ?_
    rintro _ _ ⟨rfl, rfl⟩
    exact ⟨_, _, _, .tmp rfl (ResR.cell1 rfl rfl rfl rfl rfl .nil), .cons (.same _) (.cons (.same _) .nil), rfl, by unfold shlR; rw [if_neg h0, if_pos ⟨hg, hf⟩]; rfl⟩
theorem ZiV (a n : Nat) (ha : (lim a).length ≤ 1024) (hn : n ≤ 1000000) : PC C ZnJ [numD a, .int .i64 (n : Int)] (fun o => o = .ret (.tup [numD (a / 2 ^ n), .int .i64 0])) := by
  have hl : (lim (a / 2 ^ n)).length ≤ 1024 := Nat.le_trans (ln_mono (Nat.div_le_self _ _)) ha
  refine PC.run ZiB ZmH rfl ZmI rfl (rs := [.tmp 4, .cell 5 28]) (by rw [ZmJ]) (by simp only [List.length_cons, List.length_nil, Nat.reduceAdd, Nat.reduceSub, List.replicate_succ, List.replicate_zero, List.cons_append, List.nil_append]; exact rfl) ?_
  refine ARun.seq (ARun.region ?_)
  refine y_op rfl (Zaa rfl) ?_
  refine y_new rfl (Zag rfl rfl rfl rfl) ?_
  refine AOps.nil (ARun.seq (ARun.region ?_))
  refine Zdl rfl rfl rfl ?_
  refine AOps.nil (ARun.seq (ARun.region ?_))
  refine y_op rfl (q_move rfl) ?_
  refine y_op rfl (Zaq rfl rfl rfl rfl rfl rfl rfl rfl rfl rfl rfl (by decide) (by decide) rfl) ?_
  refine y_gop rfl (g_call rfl rfl (PC.gp (ZbC [lim a] 1 rfl))) (fun _ => ?_) (fun q hq => by obtain ⟨hq, rfl⟩ := hq; simp only [List.all_cons, List.all_nil, Bool.and_true, okB_lim ha] at hq; cases hq)
  refine AOps.nil (ARun.seq (ARun.region ?_))
  refine y_op rfl (q_move rfl) ?_
  refine y_op rfl (q_intB (b := true) rfl rfl rfl (decide_eq_true (by omega))) ?_
  refine y_gop rfl (g_call rfl rfl (PC.gp (Zba _ 1))) (fun _ => ?_) (fun q hq => by obtain ⟨hq, rfl⟩ := hq; cases hq)
  refine AOps.nil (ARun.seq (ARun.region ?_))
  refine y_op rfl (q_move rfl) ?_
  refine y_op rfl (q_move rfl) ?_
  refine y_op rfl (q_call rfl rfl (Ze0 a n (by omega) (by omega))) ?_
  refine y_gop rfl (g_call rfl rfl (PC.gp (ZbD (a / 2 ^ n)))) (fun hf => ?_) (fun q hq => by obtain ⟨hq, rfl⟩ := hq; exact absurd hl hq)
  refine y_op rfl (Zaa rfl) ?_
  refine y_new rfl (Zai rfl rfl rfl rfl rfl rfl (Nat.le_of_ble_eq_true rfl) rfl) ?_
  refine AOps.nil ?_
  refine ARun.ret ?_
  refine DC.mono (dc0_caught_ret 0) ?_
  rintro _ _ ⟨rfl, rfl⟩
  exact ⟨_, _, _, .tmp rfl (ResR.cell1 rfl rfl rfl rfl rfl .nil), .cons (.same _) (.cons (.same _) .nil), rfl, rfl⟩
end Go.V
/- m[k] of a map that is written no longer. -/
namespace Go.V
open Go.RowKit
section
variable {C : Ctx} {env : List D} {H H' : Heap} {dst : Option Tmp} {ty : TypeId} {pos : String} {aft : Array Edge} {gd : Option (Nat × Bool)} {x y z : Operand} {d : D} {T kt et : TypeId} {te : TE}
theorem Zoo {k : IntKind} {n : Int} {ks us : List D} {r : Option D} {dz : D} (hm : C.P.underlying T = some (.map kt et)) (hk : C.P.underlying kt = some (.int k)) (hte : C.ty et = some te) (hdz : constD te.zero = some dz) (hx : evO C env x = some (.mapv ks us)) (hy : evO C env y = some (.int k n)) (hl : ks.length = us.length) (hf : findI k n (ks.zip us) = some r) :
    OpQ C ⟨dst, .lookup T x y false, ty, pos, aft, gd⟩ env H (r.getD dz) :=
  OpQ.of_runS fun L0 w μ a hs he => by
    have ex := he _ _ hx
    have ey := he _ _ hy
    simp only [VR] at ex ey
    obtain ⟨b, ea, clock, ex, _, _, k1, k2, k3⟩ := ex
    have hfn := findNow_ok 0 hf (by rw [List.map_fst_zip (by omega)]; exact k2) (by rw [List.map_snd_zip (by omega)]; exact k3)
    have hg : (getObj b).run C.P w = .ok (.map ea clock) w := by simp [getObj, Sem.run, k1]
    cases r with
    | none =>
      simp only at hfn
      refine ⟨te.zero, ?_, constD_ok hdz⟩
      simp only [execOp, ex, ey, Instr.lookup, Sem.run_bind, run_underlying hm, Result.andThen_ok, hg, Sem.run_pure, run_checkKey_int hk, run_findKeyV hk hfn, (ty_tic hte).1.run_zero, Bool.false_eq_true, if_false]
    | some d =>
      simp only at hfn
      obtain ⟨j, v, hfn, hvd⟩ := hfn
      refine ⟨v, ?_, VR.lift hvd⟩
      simp only [execOp, ex, ey, Instr.lookup, Sem.run_bind, run_underlying hm, Result.andThen_ok, hg, Sem.run_pure, run_checkKey_int hk, run_findKeyV hk hfn, Bool.false_eq_true, if_false]
end
end Go.V
set_option maxHeartbeats 4000000
set_option maxRecDepth 100000
set_option synthInstance.maxSize 100000
set_option synthInstance.maxHeartbeats 2000000
namespace Go.V
open Go.RowKit Go.Proofs
abbrev P2 (n : Nat) : Int := ((2 ^ n : Nat) : Int)
theorem P2_pos (n : Nat) : 0 < P2 n := Int.natCast_pos.2 (Nat.two_pow_pos n)
theorem ln_two (n m : Nat) (h : n < 32 * m) : (lim (2 ^ n)).length ≤ m := by
  rw [ln_le_iff, B_pow]; exact Nat.pow_lt_pow_right (by decide) h
theorem fit_P2 {n : Nat} (h : n < 32768) : fitZ (P2 n) := by
  unfold fitZ; rw [Int.natAbs_natCast]; exact ln_two n 1024 (by omega)
def wrapZ (n : Nat) (s : Bool) (a : Int) : Int := bif s && decide (P2 (n - 1) ≤ a % P2 n) then a % P2 n - P2 n else a % P2 n
def wrapO (bits : Int) (s : Bool) (a : Int) : Int ⊕ Int := if 1 ≤ bits ∧ bits ≤ 4096 then .inl (wrapZ bits.toNat s a) else .inr 1
theorem natShl1 (n : Nat) (hn : n < 32768) : PC C Zkz [.sl 1 [.int .u32 1], .int .i64 (n : Int)] (fun o => o = .ret (.tup [numD (2 ^ n), .int .i64 0])) := by
  have h := ZiU 1 n (by rw [lim_one]; decide) (by omega)
  rw [← numD_one] at h
  refine h.mono fun o ho => ?_
  have : shlR 1 n = (2 ^ n, 0) := by
    unfold shlR
    rw [if_neg (by decide), Nat.one_mul, if_pos ⟨by omega, ln_two n 1024 (by omega)⟩]
  rw [ho, this]
theorem w_sum_ok {x y : Int} (hx : fitZ x) (hy : fitZ y) (h : fitZ (x + y)) : PC C ZdJ [intD x, intD y] (fun o => o = .ret (intD (x + y))) :=
  (Zbv x y hx hy).mono fun o ho => by rcases ho with ⟨_, h2⟩ | ⟨h1, _⟩; exact h2; exact absurd h h1
theorem w_div3 {a m : Int} (ha : fitZ a) (hm : fitZ m) (h0 : 0 < m) : ∃ q, PC C Zdx [intD a, intD m, .agg [.clos ZaL []]] (fun o => o = .ret (.tup [intD q, intD (a % m)])) := by
  have h := ZhG a m ha hm (by omega) ZaL _ (fun _ => Zod (a.tdiv m) (a.tmod m) a m)
  rw [divW_euclid h0] at h
  exact ⟨_, h⟩
theorem fit_emod {a m : Int} (hm : fitZ m) (h0 : 0 < m) : fitZ (a % m) := by
  have h1 := Int.emod_nonneg a (show m ≠ 0 by omega)
  have h2 := Int.emod_lt_of_pos a h0
  exact fit_mono (by omega) hm
theorem wrapZ_bounds {n : Nat} {s : Bool} {a : Int} : (wrapZ n s a).natAbs ≤ (P2 n).natAbs := by
  have h0 := P2_pos n
  have h1 := Int.emod_nonneg a (show P2 n ≠ 0 by omega)
  have h2 := Int.emod_lt_of_pos a h0
  unfold wrapZ
  cases (s && decide (P2 (n - 1) ≤ a % P2 n)) <;> simp only [cond_true, cond_false] <;> omega
theorem cmp_P2 {x : Int} {k : Nat} (h0 : 0 ≤ x) : cmpI x.natAbs (2 ^ k) ≥ 0 ↔ P2 k ≤ x := by
  unfold cmpI P2
  generalize (2 : Nat) ^ k = y
  split
  · constructor <;> intro h <;> omega
  · split <;> constructor <;> intro h <;> omega
theorem Zme (a : Int) (ha : fitZ a) (bits : Int) (s : Bool) : PC C ZdA [.sptr [.int .i64 bits], capZ a, .sptr [.bool s]] (fun o => o = outZ (wrapO bits s a)) := by
  refine PC.run Zc2 Zg2 rfl Zg3 rfl (rs := [.cell 3 25]) (by rw [Zg4]) (by simp only [List.length_cons, List.length_nil, Nat.reduceAdd, Nat.reduceSub, List.replicate_succ, List.replicate_zero, List.cons_append, List.nil_append]; exact rfl) ?_
  refine ARun.seq (ARun.region ?_)
  refine y_new rfl (Zag rfl rfl rfl rfl) ?_
  refine AOps.nil (ARun.seq (ARun.region ?_))
  refine y_op rfl (q_load rfl rfl rfl rfl) ?_
  refine y_op rfl (q_int rfl rfl rfl) ?_
  refine y_op rfl (q_move rfl) ?_
  refine AOps.bool 9 rfl (fun g1 => ?_) (fun g1 => ?_)
  · skip
    have g1 := of_decide_eq_true g1
    refine y_op rfl (q_load rfl rfl rfl rfl) ?_
    refine y_op rfl (q_int rfl rfl rfl) ?_
    refine y_op rfl (q_pick rfl rfl rfl rfl) ?_
    refine y_gop rfl (g_call rfl rfl (PC.gp (ZaH _ 1))) (fun hg => ?_) (fun q hq => by obtain ⟨hq, rfl⟩ := hq; exact ⟨_, _, .same _, rfl, by have hq : ¬ bits ≤ 4096 := of_decide_eq_false hq; unfold wrapO; rw [if_neg (fun h => hq h.2)]; rfl⟩)
    have hg : bits ≤ 4096 := of_decide_eq_true hg
    obtain ⟨n, rfl⟩ : ∃ n : Nat, bits = (n : Int) := ⟨bits.toNat, by omega⟩
    have hO : wrapO (n : Int) s a = .inl (wrapZ n s a) := by unfold wrapO; rw [if_pos ⟨g1, hg⟩]; rfl
    rw [hO]
    have hM : fitZ (P2 n) := fit_P2 (by omega)
    have hp := P2_pos n
    obtain ⟨q, hdv⟩ := w_div3 (a := a) ha hM hp
    have hr := fit_emod (a := a) hM hp
    have hr0 := Int.emod_nonneg a (show P2 n ≠ 0 by omega)
    have hr1 := Int.emod_lt_of_pos a hp
    have hwf : fitZ (wrapZ n s a) := fit_mono wrapZ_bounds hM
    refine AOps.nil (ARun.seq (ARun.region ?_))
    refine y_op rfl (Zaq rfl rfl rfl rfl rfl rfl rfl rfl rfl rfl rfl (by decide) (by decide) rfl) ?_
    refine y_op rfl (q_load rfl rfl rfl rfl) ?_
    refine y_op rfl (q_call rfl rfl (natShl1 n (by omega))) ?_
    refine y_op rfl (Zab rfl rfl) ?_
    refine y_op rfl (Zab rfl rfl) ?_
    refine y_op rfl (q_call rfl rfl (ZaU (2 ^ n))) ?_
    refine y_op rfl (q_call rfl rfl (Zal false (2 ^ n))) ?_
    refine ZbL rfl rfl rfl rfl rfl rfl rfl rfl rfl rfl rfl ?_
    refine AOps.nil (ARun.seq ?_)
    refine ARun.drawnG (n := 11) (fun S : Nat → Bool => [cell0]) [(8, 5, 25, [.bool false, .nilsl], some (10, [.bool (decide (q < 0)), numD q.natAbs])), (9, 6, 25, [.bool false, .nilsl], none)] (fun _ => False) (sk := [(8, some 10), (9, none)]) mixC rfl rfl (by kernel_rfl) rfl (by kernel_rfl) rfl (fun _ _ _ h => h.elim) ?_
    refine DChG.op rfl (fun _ => Zae rfl rfl rfl rfl rfl) (fun _ => rfl) rfl rfl ?_
    refine DChG.op rfl (fun _ => Zae rfl rfl rfl rfl rfl) (fun _ => rfl) rfl rfl ?_
    refine DChG.op rfl (fun _ => q_call rfl rfl (ZiS)) (fun _ => rfl) rfl rfl ?_
    refine DChG.op rfl (fun _ => Zoo (kt := t_int) (et := ZaJ) (by kernel_rfl) (by kernel_rfl) rfl rfl rfl rfl rfl (find_kind 3)) (fun _ => rfl) rfl rfl ?_
    refine DChG.op rfl (fun _ => q_call rfl rfl (hdv)) (fun _ => rfl) rfl rfl ?_
    refine DChG.op rfl (fun _ => q_move rfl) (fun _ => rfl) rfl rfl ?_
    refine DChG.op rfl (fun _ => Zab rfl rfl) (fun _ => rfl) rfl rfl ?_
    refine DChG.op rfl (fun _ => Zab rfl rfl) (fun _ => rfl) rfl rfl ?_
    refine .al rfl rfl rfl rfl (fun _ => rfl) rfl rfl rfl ?_
    refine .al rfl rfl rfl rfl (fun _ => rfl) rfl rfl rfl ?_
    refine .sp (j := 8) rfl rfl rfl rfl rfl rfl rfl (fun _ => rfl) rfl rfl rfl (by kernel_rfl) ?_
    refine .nil (fun hG => AOps.fin (n := 1) (as' := [(8, 5, 25, [.bool (decide (q < 0)), numD q.natAbs]), (9, 6, 25, [.bool false, .nilsl])]) (H' := [cell0, cellZ q, cell0]) rfl rfl rfl ?_)
    refine y_new rfl (Zac rfl rfl rfl rfl rfl rfl rfl rfl (Nat.le_of_ble_eq_true rfl) rfl) ?_
    refine AOps.nil (ARun.seq (ARun.seq ?_))
    cases s with
    | false =>
      refine ARun.drawnP 14 (fun _ => False) mixC rfl rfl (by kernel_rfl) (fun _ _ h => h.elim) ?_
      refine .op rfl (q_load rfl rfl rfl rfl) ?_
      refine .op rfl (q_move rfl) ?_
      refine .skip rfl ?_
      refine .skip rfl ?_
      refine .skip rfl ?_
      refine .skip rfl ?_
      refine .skip rfl ?_
      refine .skip rfl ?_
      refine .skip rfl ?_
      refine .skip rfl ?_
      refine .skip rfl ?_
      refine .skip rfl ?_
      refine .skip rfl ?_
      refine .op rfl (q_pick rfl rfl rfl rfl) ?_
      refine .nil (fun hG => ?_)
      refine AOps.nil ?_
      refine ARun.condF rfl ?_
      refine ARun.skip (ARun.seq (ARun.region ?_))
      refine y_op rfl (Zaf rfl rfl rfl rfl rfl rfl) ?_
      refine y_op rfl (q_call rfl rfl (Zbw (a % P2 n) hr)) ?_
      refine y_new rfl (Zac rfl rfl rfl rfl rfl rfl rfl rfl (Nat.le_of_ble_eq_true rfl) rfl) ?_
      refine AOps.nil ?_
      refine ARun.ret ?_
      refine ⟨_, _, _, ResR.cellA rfl rfl rfl rfl rfl rfl .nil, .cons (.same _) .nil, rfl, ?_⟩
      rfl
    | true =>
      refine ARun.drawnP 14 (fun _ => False) mixC rfl rfl (by kernel_rfl) (fun _ _ h => h.elim) ?_
      refine .op rfl (q_load rfl rfl rfl rfl) ?_
      refine .op rfl (q_move rfl) ?_
      refine .op rfl (q_fldP rfl rfl rfl (by decide)) ?_
      refine .op rfl (Zak rfl rfl rfl rfl rfl) ?_
      refine .op rfl (Zaq rfl rfl rfl rfl rfl rfl rfl rfl rfl rfl rfl (by decide) (by decide) rfl) ?_
      refine .op rfl (q_load rfl rfl rfl rfl) ?_
      refine .op rfl (q_sub rfl rfl (nsub1_i64 (by omega) (by omega))) ?_
      refine .op rfl (q_call rfl rfl (natShl1 (n - 1) (by omega))) ?_
      refine .op rfl (Zab rfl rfl) ?_
      refine .op rfl (Zab rfl rfl) ?_
      refine .op rfl (q_call rfl rfl (ZaU (2 ^ (n - 1)))) ?_
      refine .op rfl (q_call rfl rfl (Zck (a % P2 n).natAbs (2 ^ (n - 1)) hr (ln_two _ _ (by omega)))) ?_
      refine .op rfl (q_int rfl rfl rfl) ?_
      refine .op rfl (q_pick rfl rfl rfl rfl) ?_
      refine .nil (fun hG => ?_)
      refine AOps.nil ?_
      refine ARun.ite rfl (fun h => ?_) (fun h => ?_)
      · skip
        have h : P2 (n - 1) ≤ a % P2 n := (cmp_P2 hr0).1 h
        have hw : wrapZ n true a = a % P2 n + -P2 n := by unfold wrapZ; rw [decide_eq_true h]; exact Int.sub_eq_add_neg
        refine ARun.drawnP 4 (fun _ => False) mixC rfl rfl (by kernel_rfl) (fun _ _ h => h.elim) ?_
        refine .op rfl (Zaf rfl rfl rfl rfl rfl rfl) ?_
        refine .op rfl (Zae rfl rfl rfl rfl rfl) ?_
        refine .op rfl (q_call rfl rfl (ZbE (P2 n))) ?_
        refine .op rfl (q_call rfl rfl (w_sum_ok hr (fitZ_neg hM) (by rw [← hw]; exact hwf))) ?_
        refine .nil (fun hG => ?_)
        refine y_new rfl (Zac rfl rfl rfl rfl rfl rfl rfl rfl (Nat.le_of_ble_eq_true rfl) rfl) ?_
        refine AOps.nil (ARun.seq (ARun.region ?_))
        refine y_op rfl (Zaf rfl rfl rfl rfl rfl rfl) ?_
        refine y_op rfl (q_call rfl rfl (Zbw (a % P2 n + -P2 n) (by rw [← hw]; exact hwf))) ?_
        refine y_new rfl (Zac rfl rfl rfl rfl rfl rfl rfl rfl (Nat.le_of_ble_eq_true rfl) rfl) ?_
        refine AOps.nil ?_
        refine ARun.ret ?_
        refine ⟨_, _, _, ResR.cellA rfl rfl rfl rfl rfl rfl .nil, .cons (.same _) .nil, rfl, ?_⟩
        rw [hw]; rfl
      · skip
        have h : ¬ P2 (n - 1) ≤ a % P2 n := fun e => h ((cmp_P2 hr0).2 e)
        have hw : wrapZ n true a = a % P2 n := by unfold wrapZ; rw [decide_eq_false h]; rfl
        refine ARun.skip (ARun.seq (ARun.region ?_))
        refine y_op rfl (Zaf rfl rfl rfl rfl rfl rfl) ?_
        refine y_op rfl (q_call rfl rfl (Zbw (a % P2 n) hr)) ?_
        refine y_new rfl (Zac rfl rfl rfl rfl rfl rfl rfl rfl (Nat.le_of_ble_eq_true rfl) rfl) ?_
        refine AOps.nil ?_
        refine ARun.ret ?_
        refine ⟨_, _, _, ResR.cellA rfl rfl rfl rfl rfl rfl .nil, .cons (.same _) .nil, rfl, ?_⟩
        rw [hw]; rfl
  · skip
    have g1 := of_decide_eq_false g1
    refine y_skip rfl ?_
    refine y_skip rfl ?_
    refine y_op rfl (q_pick rfl rfl rfl rfl) ?_
    refine y_gop rfl (g_call rfl rfl (PC.gp (ZaH _ 1))) (fun hg => by cases hg) (fun q hq => by obtain ⟨hq, rfl⟩ := hq; exact ⟨_, _, .same _, rfl, by unfold wrapO; rw [if_neg (fun h => g1 h.1)]; rfl⟩)
theorem Zop (d : Bool × List Nat) (hd : U32 d.2) (bits : Int) (s : Bool) : PC C ZjZ [intA d.1 d.2, .int .i64 bits, .bool s] (fun o => o = .ret (.tup [intD (resZ ([d].all okI) (wrapO bits s (valI d))).1, .int .i64 (resZ ([d].all okI) (wrapO bits s (valI d))).2])) := by
  refine PC.run Zd1 Zi1 rfl Zi2 rfl (rs := [.cell 6 25, .tmp 7]) (by rw [Zi3]) (by simp only [List.length_cons, List.length_nil, Nat.reduceAdd, Nat.reduceSub, List.replicate_succ, List.replicate_zero, List.cons_append, List.nil_append]; exact rfl) ?_
  refine ARun.seq (ARun.region ?_)
  refine y_op rfl (q_boxF rfl rfl rfl rfl) ?_
  refine y_op rfl (q_boxF rfl rfl rfl rfl) ?_
  refine y_op rfl (q_boxF rfl rfl rfl rfl) ?_
  refine y_new rfl (Zag rfl rfl rfl rfl) ?_
  refine y_op rfl (Zaa rfl) ?_
  refine AOps.nil (ARun.seq (ARun.region ?_))
  refine y_op rfl (Zdp rfl) ?_
  refine y_op rfl (Zae rfl rfl rfl rfl rfl) ?_
  refine y_op rfl (Zaq rfl rfl rfl rfl rfl rfl rfl rfl rfl rfl rfl (by decide) (by decide) rfl) ?_
  refine y_op rfl (q_call rfl rfl (Zb7 [d] 1 rfl ZdA [.sptr [.int .i64 bits], .sptr [.bool d.1, sln .u32 d.2], .sptr [.bool s]] rfl (wrapO bits s (valI d)) (fun h => by obtain ⟨x, rfl, f1⟩ := okI_int hd (by simpa using h); rw [valI_int]; exact Zme x f1 bits s))) ?_
  refine y_op rfl (Zab rfl rfl) ?_
  refine y_op rfl (Zab rfl rfl) ?_
  refine y_new rfl (Zac rfl rfl rfl rfl rfl rfl rfl rfl (Nat.le_of_ble_eq_true rfl) rfl) ?_
  refine y_op rfl (Zaa rfl) ?_
  refine AOps.nil ?_
  refine ARun.ret ?_
  refine ⟨_, _, _, ResR.cellA rfl rfl rfl rfl rfl rfl (.tmp rfl .nil), .cons (.same _) (.cons (.same _) .nil), rfl, ?_⟩
  rfl
noncomputable def shiftO (a n : Int) : Int ⊕ Int := if 0 ≤ n then (if a = 0 then .inl 0 else if n ≤ 32768 then fitO (a * P2 n.toNat) else .inr 2) else .inl (a / P2 (min (-n).toNat 33792))
theorem shlR_fit (a n : Nat) : (lim (shlR a n).1).length ≤ 1024 := by
  unfold shlR
  split
  · show (lim 0).length ≤ 1024; rw [lim_zero]; decide
  · split
    · rename_i h; exact h.2
    · show (lim 0).length ≤ 1024; rw [lim_zero]; decide
theorem natSub_ok {a b : Nat} (ha : (lim a).length ≤ 1024) (hb : (lim b).length ≤ 1024) (h : b ≤ a) : PC C ZkA [numD a, numD b] (fun o => o = .ret (.tup [numD (a - b), .int .i64 0])) :=
  (Zdq (lim a) (lim b) (U32_lim _) (U32_lim _)).mono fun o ho => by
    have : (lim (a - b)).length ≤ 1024 := Nat.le_trans (ln_mono (Nat.sub_le _ _)) ha
    rw [ho, resN_ok ha hb, val_lim, val_lim, if_pos h]
    simp only [if_pos this]
theorem natAdd_ok {a b : Nat} (ha : (lim a).length ≤ 1024) (hb : (lim b).length ≤ 1024) (h : (lim (a + b)).length ≤ 1024) : PC C ZkB [numD a, numD b] (fun o => o = .ret (.tup [numD (a + b), .int .i64 0])) :=
  (Ze4 (lim a) (lim b) (U32_lim _) (U32_lim _)).mono fun o ho => by
    rw [ho, resN_ok ha hb, val_lim, val_lim]
    simp only [if_pos h]
theorem floor_neg {x p : Nat} (hp : 0 < p) (hx : 0 < x) : -(((x - 1) / p + 1 : Nat) : Int) = -(x : Int) / (p : Int) := by
  obtain ⟨y, rfl⟩ : ∃ y, x = y + 1 := ⟨x - 1, by omega⟩
  rw [Nat.add_sub_cancel]
  have h1 := Nat.div_add_mod y p
  have h2 := Nat.mod_lt y hp
  have h3 : -((y + 1 : Nat) : Int) = ((p : Int) - 1 - ((y % p : Nat) : Int)) + (p : Int) * (-((y / p + 1 : Nat) : Int)) := by
    have h4 : (p : Int) * ((y / p : Nat) : Int) + ((y % p : Nat) : Int) = (y : Int) := by rw [← Int.natCast_mul, ← Int.natCast_add, h1]
    rw [Int.natCast_add, Int.natCast_add, Int.mul_neg, Int.mul_add]
    omega
  rw [h3, Int.add_mul_ediv_left _ _ (by omega), Int.ediv_eq_zero_of_lt (by omega) (by omega), Int.zero_add]
theorem Zlk (a : Int) (ha : fitZ a) (n : Int) (h1 : -9223372036854775808 ≤ n) (h2 : n ≤ 9223372036854775807) : PC C Zc3 [.sptr [.int .i64 n], capZ a] (fun o => o = outZ (shiftO a n)) := by
  have ha' : (lim a.natAbs).length ≤ 1024 := ha
  refine PC.run Zct ZfN rfl ZfO rfl (rs := [.cell 2 25]) (by rw [ZfP]) (by simp only [List.length_cons, List.length_nil, Nat.reduceAdd, Nat.reduceSub, List.replicate_succ, List.replicate_zero, List.cons_append, List.nil_append]; exact rfl) ?_
  refine ARun.seq (ARun.region ?_)
  refine y_new rfl (Zag rfl rfl rfl rfl) ?_
  refine AOps.nil (ARun.seq (ARun.seq (ARun.region ?_)))
  refine y_op rfl (q_load rfl rfl rfl rfl) ?_
  refine y_op rfl (q_int rfl rfl rfl) ?_
  refine AOps.nil ?_
  refine ARun.ite rfl (fun hn => ?_) (fun hn => ?_)
  · skip
    obtain ⟨m, rfl⟩ : ∃ m : Nat, n = (m : Int) := ⟨n.toNat, by omega⟩
    have hres : ∀ e : Int, (shlR a.natAbs m).2 = e → (e = 0 → shiftO a m = .inl (sgnd (decide (a < 0)) (shlR a.natAbs m).1) ∧ fitZ (sgnd (decide (a < 0)) (shlR a.natAbs m).1)) ∧ (e ≠ 0 → e = 2 ∧ shiftO a m = .inr 2) := by
      rintro e rfl
      unfold shiftO shlR
      rw [if_pos (show (0 : Int) ≤ (m : Int) by omega)]
      by_cases h0 : a = 0
      · subst h0
        rw [if_pos rfl, show (0 : Int).natAbs = 0 from rfl, if_pos rfl]
        exact ⟨fun _ => ⟨rfl, by show (lim 0).length ≤ 1024; rw [lim_zero]; decide⟩, fun h => absurd rfl h⟩
      · rw [if_neg h0, if_neg (by omega)]
        have e1 : (a * P2 m).natAbs = a.natAbs * 2 ^ m := by rw [Int.natAbs_mul, Int.natAbs_natCast]
        have e2 : sgnd (decide (a < 0)) (a.natAbs * 2 ^ m) = a * P2 m := by
          unfold sgnd
          by_cases h : a < 0
          · rw [decide_eq_true h, cond_true, Int.natCast_mul, ← Int.neg_mul, show -(a.natAbs : Int) = a by omega]
          · rw [decide_eq_false h, cond_false, Int.natCast_mul, show (a.natAbs : Int) = a by omega]
        by_cases h3 : m ≤ 32768
        · rw [if_pos (show (m : Int) ≤ 32768 by omega)]
          by_cases h4 : (lim (a.natAbs * 2 ^ m)).length ≤ 1024
          · have h5 : fitZ (a * P2 m) := by unfold fitZ; rw [e1]; exact h4
            rw [if_pos ⟨h3, h4⟩]
            exact ⟨fun _ => ⟨by dsimp only; rw [e2]; exact fitO_t h5, by dsimp only; rw [e2]; exact h5⟩, fun h => absurd rfl h⟩
          · have h5 : ¬ fitZ (a * P2 m) := by unfold fitZ; rw [e1]; exact h4
            rw [if_neg (fun h => h4 h.2)]
            exact ⟨fun h => (by cases h), fun _ => ⟨rfl, fitO_f h5⟩⟩
        · rw [if_neg (show ¬ (m : Int) ≤ 32768 by omega), if_neg (fun h => h3 h.1)]
          exact ⟨fun h => (by cases h), fun _ => ⟨rfl, rfl⟩⟩
    obtain ⟨hr1, hr2⟩ := hres _ rfl
    refine ARun.seq ?_
    refine ARun.drawnP 11 (fun q => (shlR a.natAbs m).2 ≠ 0 ∧ q = failW (shlR a.natAbs m).2) mixC rfl rfl (by kernel_rfl) (fun _ _ h => by obtain ⟨h1, rfl⟩ := h; obtain ⟨h3, h4⟩ := hr2 h1; exact ⟨_, _, .same _, rfl, by rw [h3, h4]; rfl⟩) ?_
    refine .op rfl (q_fldS rfl rfl rfl (by decide)) ?_
    refine .op rfl (q_load rfl rfl rfl rfl) ?_
    refine .op rfl (q_fldS rfl rfl rfl (by decide)) ?_
    refine .op rfl (q_load rfl rfl rfl rfl) ?_
    refine .op rfl (q_load rfl rfl rfl rfl) ?_
    refine .op rfl (q_call rfl rfl (ZiU a.natAbs m ha' (by omega))) ?_
    refine .op rfl (Zab rfl rfl) ?_
    refine .op rfl (Zab rfl rfl) ?_
    refine .opP rfl (g_call rfl rfl ((ZhE (shlR a.natAbs m).1 (shlR a.natAbs m).2).mono fun o ho => ho.imp id (fun ⟨x, y⟩ => ⟨_, ⟨x, rfl⟩, y⟩))) ?_
    refine .op rfl (q_call rfl rfl (Zal (decide (a < 0)) (shlR a.natAbs m).1)) ?_
    refine .op rfl (q_call rfl rfl (Zev _ (by rw [sgnd_abs]; have := shlR_fit a.natAbs m; omega))) ?_
    refine .nil (fun hG => ?_)
    refine y_new rfl (Zac rfl rfl rfl rfl rfl rfl rfl rfl (Nat.le_of_ble_eq_true rfl) rfl) ?_
    refine AOps.nil ?_
    refine ARun.ret ?_
    refine ⟨_, _, _, ResR.cellA rfl rfl rfl rfl rfl rfl .nil, .cons (.same _) .nil, rfl, ?_⟩
    rw [(hr1 hG.2).1]; rfl
  · skip
    obtain ⟨kk, hkk⟩ : ∃ kk, kk = min (-n).toNat 33792 := ⟨_, rfl⟩
    have hO : shiftO a n = .inl (a / P2 kk) := by unfold shiftO; rw [if_neg (by omega), hkk]
    rw [hO]
    refine ARun.skip (ARun.seq (ARun.region ?_))
    refine y_op rfl (q_load rfl rfl rfl rfl) ?_
    refine y_op rfl (q_maxR (r := -(kk : Int)) rfl rfl (by omega)) ?_
    refine y_op rfl (q_neg rfl (show _ = (kk : Int) by rw [IntWalk.i64_in _ (by omega)]; omega)) ?_
    refine y_op rfl (Zaa rfl) ?_
    refine AOps.nil (ARun.seq (ARun.seq (ARun.region ?_)))
    refine y_op rfl (q_fldS rfl rfl rfl (by decide)) ?_
    refine y_op rfl (q_load rfl rfl rfl rfl) ?_
    refine y_op rfl (q_not rfl) ?_
    refine AOps.nil ?_
    refine ARun.cond rfl (fun hs => ?_) (fun hs => ?_)
    · skip
      have hs : ¬ a < 0 := by simpa using hs
      have hv : sgnd false (a.natAbs / 2 ^ kk) = a / P2 kk := by
        show ((a.natAbs / 2 ^ kk : Nat) : Int) = _
        rw [Int.natCast_ediv, show (a.natAbs : Int) = a by omega]
      refine ARun.seq (ARun.region ?_)
      refine y_op rfl (q_fldS rfl rfl rfl (by decide)) ?_
      refine y_op rfl (q_load rfl rfl rfl rfl) ?_
      refine y_op rfl (q_move rfl) ?_
      refine y_op rfl (q_call rfl rfl (ZiV a.natAbs kk ha' (by omega))) ?_
      refine y_op rfl (Zab rfl rfl) ?_
      refine y_op rfl (Zab rfl rfl) ?_
      refine y_op rfl (q_call rfl rfl (ZaU (a.natAbs / 2 ^ kk))) ?_
      refine y_op rfl (q_call rfl rfl (Zal false (a.natAbs / 2 ^ kk))) ?_
      refine y_op rfl (q_call rfl rfl (Zev _ (by rw [sgnd_abs]; have := ln_mono (Nat.div_le_self a.natAbs (2 ^ kk)); omega))) ?_
      refine y_new rfl (Zac rfl rfl rfl rfl rfl rfl rfl rfl (Nat.le_of_ble_eq_true rfl) rfl) ?_
      refine AOps.nil ?_
      refine ARun.ret ?_
      refine ⟨_, _, _, ResR.cellA rfl rfl rfl rfl rfl rfl .nil, .cons (.same _) .nil, rfl, ?_⟩
      rw [hv]; rfl
    · skip
      have hs : a < 0 := by simpa using hs
      have hv : sgnd true ((a.natAbs - 1) / 2 ^ kk + 1) = a / P2 kk := by
        have h := floor_neg (x := a.natAbs) (p := 2 ^ kk) (Nat.two_pow_pos kk) (by omega)
        show -(((a.natAbs - 1) / 2 ^ kk + 1 : Nat) : Int) = _
        rw [h, show -(a.natAbs : Int) = a by omega]
      have hq : (a.natAbs - 1) / 2 ^ kk + 1 ≤ a.natAbs := by have := Nat.div_le_self (a.natAbs - 1) (2 ^ kk); omega
      have hl1 : (lim (a.natAbs - 1)).length ≤ 1024 := Nat.le_trans (ln_mono (Nat.sub_le _ _)) ha'
      have hl2 : (lim ((a.natAbs - 1) / 2 ^ kk)).length ≤ 1024 := Nat.le_trans (ln_mono (Nat.div_le_self _ _)) hl1
      have hl3 : (lim ((a.natAbs - 1) / 2 ^ kk + 1)).length ≤ 1024 := Nat.le_trans (ln_mono hq) ha'
      have hone : (lim 1).length ≤ 1024 := by rw [lim_one]; decide
      have hsub := natSub_ok ha' hone (show 1 ≤ a.natAbs by omega)
      rw [← numD_one] at hsub
      have hadd := natAdd_ok hl2 hone hl3
      rw [← numD_one] at hadd
      refine ARun.skip (ARun.seq (ARun.region ?_))
      refine y_op rfl (q_fldS rfl rfl rfl (by decide)) ?_
      refine y_op rfl (q_load rfl rfl rfl rfl) ?_
      refine y_op rfl (Zaq rfl rfl rfl rfl rfl rfl rfl rfl rfl rfl rfl (by decide) (by decide) rfl) ?_
      refine y_op rfl (q_call rfl rfl (hsub)) ?_
      refine y_op rfl (Zab rfl rfl) ?_
      refine y_op rfl (Zab rfl rfl) ?_
      refine y_op rfl (q_call rfl rfl (ZaU (a.natAbs - 1))) ?_
      refine y_op rfl (q_move rfl) ?_
      refine y_op rfl (q_call rfl rfl (ZiV (a.natAbs - 1) kk hl1 (by omega))) ?_
      refine y_op rfl (Zab rfl rfl) ?_
      refine y_op rfl (Zab rfl rfl) ?_
      refine y_op rfl (q_call rfl rfl (ZaU ((a.natAbs - 1) / 2 ^ kk))) ?_
      refine y_op rfl (Zaa rfl) ?_
      refine AOps.nil (ARun.seq (ARun.region ?_))
      refine y_op rfl (q_move rfl) ?_
      refine y_op rfl (Zaq rfl rfl rfl rfl rfl rfl rfl rfl rfl rfl rfl (by decide) (by decide) rfl) ?_
      refine y_op rfl (q_call rfl rfl (hadd)) ?_
      refine y_op rfl (Zab rfl rfl) ?_
      refine y_op rfl (Zab rfl rfl) ?_
      refine y_op rfl (q_call rfl rfl (ZaU ((a.natAbs - 1) / 2 ^ kk + 1))) ?_
      refine y_op rfl (q_call rfl rfl (Zal true ((a.natAbs - 1) / 2 ^ kk + 1))) ?_
      refine y_op rfl (q_call rfl rfl (Zev _ (by rw [sgnd_abs]; omega))) ?_
      refine y_new rfl (Zac rfl rfl rfl rfl rfl rfl rfl rfl (Nat.le_of_ble_eq_true rfl) rfl) ?_
      refine AOps.nil ?_
      refine ARun.ret ?_
      refine ⟨_, _, _, ResR.cellA rfl rfl rfl rfl rfl rfl .nil, .cons (.same _) .nil, rfl, ?_⟩
      rw [hv]; rfl
theorem Znv (d : Bool × List Nat) (hd : U32 d.2) (n : Int) (h1 : -9223372036854775808 ≤ n) (h2 : n ≤ 9223372036854775807) : PC C Zi4 [intA d.1 d.2, .int .i64 n] (fun o => o = .ret (.tup [intD (resZ ([d].all okI) (shiftO (valI d) n)).1, .int .i64 (resZ ([d].all okI) (shiftO (valI d) n)).2])) := by
  refine PC.run Zdv ZhT rfl ZhU rfl (rs := [.cell 4 25, .tmp 5]) (by rw [ZhV]) (by simp only [List.length_cons, List.length_nil, Nat.reduceAdd, Nat.reduceSub, List.replicate_succ, List.replicate_zero, List.cons_append, List.nil_append]; exact rfl) ?_
  refine ARun.seq (ARun.region ?_)
  refine y_op rfl (q_boxF rfl rfl rfl rfl) ?_
  refine y_op rfl (q_boxF rfl rfl rfl rfl) ?_
  refine y_new rfl (Zag rfl rfl rfl rfl) ?_
  refine y_op rfl (Zaa rfl) ?_
  refine AOps.nil (ARun.seq (ARun.region ?_))
  refine y_op rfl (Zdp rfl) ?_
  refine y_op rfl (Zae rfl rfl rfl rfl rfl) ?_
  refine y_op rfl (Zaq rfl rfl rfl rfl rfl rfl rfl rfl rfl rfl rfl (by decide) (by decide) rfl) ?_
  refine y_op rfl (q_call rfl rfl (Zb7 [d] 1 rfl Zc3 [.sptr [.int .i64 n], .sptr [.bool d.1, sln .u32 d.2]] rfl (shiftO (valI d) n) (fun h => by obtain ⟨x, rfl, f1⟩ := okI_int hd (by simpa using h); rw [valI_int]; exact Zlk x f1 n h1 h2))) ?_
  refine y_op rfl (Zab rfl rfl) ?_
  refine y_op rfl (Zab rfl rfl) ?_
  refine y_new rfl (Zac rfl rfl rfl rfl rfl rfl rfl rfl (Nat.le_of_ble_eq_true rfl) rfl) ?_
  refine y_op rfl (Zaa rfl) ?_
  refine AOps.nil ?_
  refine ARun.ret ?_
  refine ⟨_, _, _, ResR.cellA rfl rfl rfl rfl rfl rfl (.tmp rfl .nil), .cons (.same _) (.cons (.same _) .nil), rfl, ?_⟩
  rfl
end Go.V
namespace Go.V
def bo (op : Int) (x y : Nat) : Nat := if op = 1 then x &&& y else if op = 2 then x ||| y else x ^^^ y
def sb (op : Int) (x y : Bool) : Bool := if op = 1 then x && y else if op = 2 then x || y else Bool.xor x y
theorem bo_mod (op : Int) (x y k : Nat) : bo op x y % 2 ^ k = bo op (x % 2 ^ k) (y % 2 ^ k) := by
  unfold bo; split
  · exact Nat.and_mod_two_pow
  · split
    · exact Nat.or_mod_two_pow
    · exact Nat.xor_mod_two_pow
theorem bo_div (op : Int) (x y k : Nat) : bo op x y / 2 ^ k = bo op (x / 2 ^ k) (y / 2 ^ k) := by
  unfold bo; split
  · exact Nat.and_div_two_pow
  · split
    · exact Nat.or_div_two_pow
    · exact Nat.xor_div_two_pow
theorem bo_lt {op : Int} {x y k : Nat} (hx : x < 2 ^ k) (hy : y < 2 ^ k) : bo op x y < 2 ^ k := by
  unfold bo; split
  · exact Nat.and_lt_two_pow _ hy
  · split
    · exact Nat.or_lt_two_pow hx hy
    · exact Nat.xor_lt_two_pow hx hy
theorem bo_dig (op : Int) (x y i : Nat) : dig (bo op x y) i = bo op (dig x i) (dig y i) := by
  unfold dig
  rw [B_pow, bo_div, show B = 2 ^ 32 from rfl, bo_mod]
theorem bo_add {op : Int} {x y u v n : Nat} (hx : x < B ^ n) (hy : y < B ^ n) : bo op (x + B ^ n * u) (y + B ^ n * v) = bo op x y + B ^ n * bo op u v := by
  rw [B_pow] at *
  have h1 := Nat.mod_add_div (bo op (x + 2 ^ (32 * n) * u) (y + 2 ^ (32 * n) * v)) (2 ^ (32 * n))
  rw [bo_mod, bo_div, Nat.add_mul_mod_self_left, Nat.add_mul_mod_self_left, Nat.mod_eq_of_lt hx, Nat.mod_eq_of_lt hy, Nat.add_mul_div_left _ _ (Nat.two_pow_pos _), Nat.add_mul_div_left _ _ (Nat.two_pow_pos _), Nat.div_eq_of_lt hx, Nat.div_eq_of_lt hy, Nat.zero_add, Nat.zero_add] at h1
  exact h1.symm
def rsN (b : Bool) : Nat := bif b then 4294967295 else 0
theorem rsN_bo (op : Int) (a b : Bool) : bo op (rsN a) (rsN b) = rsN (sb op a b) := by
  unfold bo sb
  split
  · cases a <;> cases b <;> rfl
  · split
    · cases a <;> cases b <;> rfl
    · cases a <;> cases b <;> rfl
def tw (n : Nat) (a : Int) : Nat := (a % ((B ^ n : Nat) : Int)).toNat
theorem Bn_pos (n : Nat) : 0 < B ^ n := Nat.pow_pos B_pos
theorem tw_lt (n : Nat) (a : Int) : tw n a < B ^ n := by
  have h := Bn_pos n
  have h1 := Int.emod_nonneg a (show ((B ^ n : Nat) : Int) ≠ 0 by omega)
  have h2 := Int.emod_lt_of_pos a (show 0 < ((B ^ n : Nat) : Int) by omega)
  unfold tw; omega
theorem tw_cast (n : Nat) (a : Int) : ((tw n a : Nat) : Int) = a % ((B ^ n : Nat) : Int) := by
  have h := Bn_pos n
  have h1 := Int.emod_nonneg a (show ((B ^ n : Nat) : Int) ≠ 0 by omega)
  unfold tw; omega
def inB (n : Nat) (a : Int) : Prop := -((B ^ n : Nat) : Int) ≤ a ∧ a < ((B ^ n : Nat) : Int)
theorem inB.of {a : Int} {n : Nat} (h : (lim a.natAbs).length ≤ n) : inB n a := by
  have := ln_le_iff.1 h
  unfold inB; omega
theorem inB.tw {n : Nat} {a : Int} (h : inB n a) : ((tw n a : Nat) : Int) = a + (bif decide (a < 0) then ((B ^ n : Nat) : Int) else 0) := by
  rw [tw_cast]
  obtain ⟨h1, h2⟩ := h
  by_cases h0 : a < 0
  · rw [decide_eq_true h0, cond_true, ← Int.add_emod_right, Int.emod_eq_of_lt (by omega) (by omega)]
  · rw [decide_eq_false h0, cond_false, Int.emod_eq_of_lt (by omega) h2, Int.add_zero]
theorem inB.mono {n m : Nat} {a : Int} (h : inB n a) (hm : n ≤ m) : inB m a := by
  have := Nat.pow_le_pow_right B_pos hm
  unfold inB at *; omega
theorem inB.succ {n : Nat} {a : Int} (h : inB n a) : Go.V.tw (n + 1) a = Go.V.tw n a + B ^ n * rsN (decide (a < 0)) := by
  have h1 := h.tw
  have h2 := (h.mono (show n ≤ n + 1 by omega)).tw
  have h3 : B ^ (n + 1) = B ^ n * 4294967296 := Nat.pow_succ ..
  by_cases h0 : a < 0
  · rw [decide_eq_true h0, cond_true] at *
    show _ = _ + _ * 4294967295
    omega
  · rw [decide_eq_false h0, cond_false] at *
    show _ = _ + _ * 0
    omega
def bitN (op : Int) (n : Nat) (a b : Int) : Int := ((bo op (tw n a) (tw n b) : Nat) : Int) - (bif sb op (decide (a < 0)) (decide (b < 0)) then ((B ^ n : Nat) : Int) else 0)
theorem bitN_succ {op : Int} {n : Nat} {a b : Int} (ha : inB n a) (hb : inB n b) : bitN op (n + 1) a b = bitN op n a b := by
  unfold bitN
  rw [ha.succ, hb.succ, bo_add (tw_lt n a) (tw_lt n b), rsN_bo]
  have h3 : B ^ (n + 1) = B ^ n * 4294967296 := Nat.pow_succ ..
  cases sb op (decide (a < 0)) (decide (b < 0))
  · show ((_ + _ * 0 : Nat) : Int) - 0 = _ - 0
    omega
  · show ((_ + _ * 4294967295 : Nat) : Int) - ((B ^ (n + 1) : Nat) : Int) = _ - ((B ^ n : Nat) : Int)
    omega
theorem bitN_add {op : Int} {n : Nat} {a b : Int} (ha : inB n a) (hb : inB n b) : ∀ k, bitN op (n + k) a b = bitN op n a b
  | 0 => rfl
  | k + 1 => by rw [← Nat.add_assoc, bitN_succ (ha.mono (Nat.le_add_right ..)) (hb.mono (Nat.le_add_right ..)), bitN_add ha hb k]
def lnZ' (a : Int) : Nat := (lim a.natAbs).length
def bitZ (op : Int) (a b : Int) : Int := bitN op (max (lnZ' a) (lnZ' b)) a b
theorem bitZ_eq {op : Int} {n : Nat} {a b : Int} (h : max (lnZ' a) (lnZ' b) ≤ n) : bitN op n a b = bitZ op a b := by
  obtain ⟨k, rfl⟩ : ∃ k, n = max (lnZ' a) (lnZ' b) + k := ⟨n - max (lnZ' a) (lnZ' b), by omega⟩
  exact bitN_add (inB.of (Nat.le_max_left ..)) (inB.of (Nat.le_max_right ..)) k
theorem bo_ltB {op : Int} {x y n : Nat} (hx : x < B ^ n) (hy : y < B ^ n) : bo op x y < B ^ n := by
  rw [B_pow] at *; exact bo_lt hx hy
def wl (a : Int) : List Nat := if a < 0 then (lim (a.natAbs - 1)).map (fun x => 4294967295 - x) else lim a.natAbs
theorem wl_len (a : Int) : (wl a).length ≤ lnZ' a := by
  unfold wl lnZ'; split
  · rw [List.length_map]; exact ln_mono (Nat.sub_le _ _)
  · exact Nat.le_refl _
theorem U32_inv {xs : List Nat} : U32 (xs.map (fun x => 4294967295 - x)) := fun y hy => by
  obtain ⟨x, _, rfl⟩ := List.mem_map.1 hy
  omega
theorem U32_wl (a : Int) : U32 (wl a) := by
  unfold wl; split
  · exact U32_inv
  · exact U32_lim _
theorem val_inv : ∀ {xs : List Nat}, U32 xs → val (xs.map (fun x => 4294967295 - x)) + val xs + 1 = B ^ xs.length
  | [], _ => rfl
  | x :: xs, h => by
    have ih := val_inv h.tail
    have h1 := h.head
    simp only [List.map_cons, val, List.length_cons, Nat.pow_succ]
    have : B * (val (xs.map (fun x => 4294967295 - x)) + val xs + 1) = B * B ^ xs.length := congrArg (B * ·) ih
    rw [Nat.mul_comm (B ^ xs.length) B, ← this]
    simp only [Nat.mul_add, B_eq] at *
    omega
theorem wl_val (a : Int) : ((val (wl a) : Nat) : Int) = a + (bif decide (a < 0) then ((B ^ (wl a).length : Nat) : Int) else 0) := by
  unfold wl
  by_cases h : a < 0
  · rw [if_pos h, decide_eq_true h, cond_true, List.length_map]
    have := val_inv (U32_lim (a.natAbs - 1))
    rw [val_lim] at this
    omega
  · rw [if_neg h, decide_eq_false h, cond_false, val_lim]; omega
def elW (a : Int) (i : Nat) : Nat := if i < (wl a).length then (wl a).getD i 0 else rsN (decide (a < 0))
theorem wl_tw (a : Int) : val (wl a) = tw (wl a).length a := by
  have h := val_lt (U32_wl a)
  have h1 := wl_val a
  have h2 : inB (wl a).length a := by
    unfold inB
    cases h0 : decide (a < 0) <;> rw [h0] at h1 <;> simp only [cond_true, cond_false] at h1
    · have := of_decide_eq_false h0; omega
    · have := of_decide_eq_true h0; omega
  have h3 := h2.tw
  omega
theorem tw_mod {n m : Nat} (a : Int) (h : n ≤ m) : tw m a % B ^ n = tw n a := by
  have h1 : ((tw m a % B ^ n : Nat) : Int) = ((tw n a : Nat) : Int) := by
    rw [Int.natCast_emod, tw_cast, tw_cast]
    apply Int.emod_emod_of_dvd
    obtain ⟨k, rfl⟩ := Nat.exists_eq_add_of_le h
    exact ⟨((B ^ k : Nat) : Int), by rw [Nat.pow_add, Int.natCast_mul]⟩
  omega
theorem dig_mod {x n i : Nat} (h : i < n) : dig (x % B ^ n) i = dig x i := by
  have h1 : x = x % B ^ n + B ^ n * (x / B ^ n) := (Nat.mod_add_div _ _).symm
  obtain ⟨k, rfl⟩ : ∃ k, n = i + 1 + k := ⟨n - i - 1, by omega⟩
  unfold dig
  conv => rhs; rw [h1]
  rw [show B ^ (i + 1 + k) * (x / B ^ (i + 1 + k)) = B ^ i * (B * (B ^ k * (x / B ^ (i + 1 + k)))) by rw [Nat.pow_add, Nat.pow_succ]; simp only [Nat.mul_assoc]]
  rw [Nat.add_mul_div_left _ _ (Bn_pos i), Nat.add_mul_mod_self_left]
theorem elW_eq (a : Int) {i n : Nat} (h : i < n) : elW a i = dig (tw n a) i := by
  unfold elW
  split
  · rename_i hi
    rw [dig_val (U32_wl a), wl_tw a]
    rw [← dig_mod (n := min n (wl a).length) (x := tw (wl a).length a) (by omega), ← dig_mod (n := min n (wl a).length) (x := tw n a) (by omega), tw_mod a (Nat.min_le_left ..), tw_mod a (Nat.min_le_right ..)]
  · rename_i hi
    have hin : inB i a := by
      have h := val_lt (U32_wl a)
      have h1 := wl_val a
      have hp := Nat.pow_le_pow_right B_pos (show (wl a).length ≤ i by omega)
      unfold inB
      cases h0 : decide (a < 0) <;> rw [h0] at h1 <;> simp only [cond_true, cond_false] at h1
      · have := of_decide_eq_false h0; omega
      · have := of_decide_eq_true h0; omega
    rw [← dig_mod (n := i + 1) (x := tw n a) (by omega), tw_mod a (by omega), hin.succ]
    unfold dig
    rw [Nat.add_mul_div_left _ _ (Bn_pos i), Nat.div_eq_of_lt (tw_lt i a), Nat.zero_add]
    cases decide (a < 0) <;> rfl
theorem val_digs (x : Nat) : ∀ n, val ((List.range n).map (dig x)) = x % B ^ n
  | 0 => by simp [val, Nat.mod_one]
  | n + 1 => by
    rw [List.range_succ, List.map_append, val_append, val_digs x n, mod_succ, List.length_map, List.length_range]
    simp [val]
def boL (op : Int) (a b : Int) (n : Nat) : List Nat := (List.range n).map (fun i => bo op (elW a i) (elW b i))
theorem boL_len {op a b : Int} {n : Nat} : (boL op a b n).length = n := by simp [boL]
theorem boL_eq (op : Int) (a b : Int) (n : Nat) : boL op a b n = (List.range n).map (dig (bo op (tw n a) (tw n b))) := by
  unfold boL
  apply List.map_congr_left
  intro i hi
  have hi : i < n := by simpa using hi
  rw [elW_eq a hi, elW_eq b hi, bo_dig]
theorem boL_val (op : Int) (a b : Int) (n : Nat) : val (boL op a b n) = bo op (tw n a) (tw n b) := by
  rw [boL_eq, val_digs, Nat.mod_eq_of_lt (bo_ltB (tw_lt n a) (tw_lt n b))]
theorem U32_boL (op : Int) (a b : Int) (n : Nat) : U32 (boL op a b n) := by
  rw [boL_eq]
  intro x hx
  obtain ⟨i, _, rfl⟩ := List.mem_map.1 hx
  exact dig_lt _ _
theorem boL_snoc (op : Int) (a b : Int) (n : Nat) : boL op a b (n + 1) = boL op a b n ++ [bo op (elW a n) (elW b n)] := by
  unfold boL; rw [List.range_succ, List.map_append]; rfl
def ivZ (l : List Nat) (r : Bool) : Int := ((val l : Nat) : Int) - (bif r then ((B ^ l.length : Nat) : Int) else 0)
theorem ivZ_boL (op : Int) (a b : Int) (n : Nat) : ivZ (boL op a b n) (sb op (decide (a < 0)) (decide (b < 0))) = bitN op n a b := by
  unfold ivZ bitN; rw [boL_val, boL_len]
theorem wl_big (a : Int) (h : inB (wl a).length a → False) : False := by
  apply h
  have h := val_lt (U32_wl a)
  have h1 := wl_val a
  unfold inB
  cases h0 : decide (a < 0) <;> rw [h0] at h1 <;> simp only [cond_true, cond_false] at h1
  · have := of_decide_eq_false h0; omega
  · have := of_decide_eq_true h0; omega
theorem inB_wl (a : Int) : inB (wl a).length a := Classical.byContradiction fun h => wl_big a h
theorem bitN_wl {op : Int} {n : Nat} {a b : Int} (h : max (wl a).length (wl b).length = n) : bitN op n a b = bitZ op a b := by
  rw [← bitZ_eq (n := n + max (lnZ' a) (lnZ' b)) (by omega), bitN_add ((inB_wl a).mono (by omega)) ((inB_wl b).mono (by omega))]
end Go.V
set_option maxHeartbeats 4000000
set_option maxRecDepth 100000
set_option synthInstance.maxSize 100000
set_option synthInstance.maxHeartbeats 2000000
namespace Go.V
open Go.RowKit Go.Proofs
theorem Fz.grow {B J : Heap} {e : TypeId} {cs : List D} {m : Nat} (hm : m = B.length + J.length) (hp : D.pure.pures cs = true) : ∃ ids, Fz (B ++ growT J e cs) (growD m cs) (.sl cs.length cs) ids := by
  subst hm
  cases cs with
  | nil => exact ⟨_, .nil⟩
  | cons c cs =>
    refine ⟨_, Fz.row (o := ⟨c :: cs, e, 1, true, none⟩) ?_ hp⟩
    show (B ++ (J ++ [_]))[B.length + J.length]? = _
    rw [List.getElem?_append_right (by omega), Nat.add_sub_cancel_left, List.getElem?_append_right (Nat.le_refl _), Nat.sub_self]
    rfl
theorem ofInt_u32 {x : Nat} (h : x < 4294967296) : (BitVec.ofInt IntKind.u32.bits (x : Int)).toNat = x := by
  show (BitVec.ofInt 32 (x : Int)).toNat = x
  rw [BitVec.ofInt_natCast, BitVec.toNat_ofNat]
  exact Nat.mod_eq_of_lt h
theorem wrap_u32N {x : Nat} (h : x < 4294967296) : IntKind.u32.wrap (x : Int) = (x : Int) := by
  rw [IntKind.wrap_u32]; omega
theorem compl_u32 {x : Nat} (h : x < 4294967296) : IntKind.u32.wrap (BitVec.ofInt IntKind.u32.bits (if IntKind.u32.signed then -1 else IntKind.u32.max) ^^^ BitVec.ofInt IntKind.u32.bits (x : Int)).toNat = ((4294967295 - x : Nat) : Int) := by
  have h1 : BitVec.ofInt IntKind.u32.bits (if IntKind.u32.signed then -1 else IntKind.u32.max) = BitVec.allOnes 32 := by show BitVec.ofInt 32 4294967295 = _; decide
  rw [h1]
  show IntKind.u32.wrap (BitVec.allOnes 32 ^^^ BitVec.ofInt 32 (x : Int)).toNat = _
  rw [BitVec.xor_comm, BitVec.xor_allOnes, BitVec.toNat_not, show (BitVec.ofInt 32 (x : Int)).toNat = x from ofInt_u32 h]
  exact wrap_u32N (x := 2 ^ 32 - 1 - x) (by omega)
theorem land_u32 {x y : Nat} (hx : x < 4294967296) (hy : y < 4294967296) : IntKind.u32.wrap (BitVec.ofInt IntKind.u32.bits (x : Int) &&& BitVec.ofInt IntKind.u32.bits (y : Int)).toNat = ((x &&& y : Nat) : Int) := by
  rw [BitVec.toNat_and, ofInt_u32 hx, ofInt_u32 hy]; exact wrap_u32N (Nat.and_lt_two_pow (n := 32) _ hy)
theorem lor_u32 {x y : Nat} (hx : x < 4294967296) (hy : y < 4294967296) : IntKind.u32.wrap (BitVec.ofInt IntKind.u32.bits (x : Int) ||| BitVec.ofInt IntKind.u32.bits (y : Int)).toNat = ((x ||| y : Nat) : Int) := by
  rw [BitVec.toNat_or, ofInt_u32 hx, ofInt_u32 hy]; exact wrap_u32N (Nat.or_lt_two_pow (n := 32) hx hy)
theorem lxor_u32 {x y : Nat} (hx : x < 4294967296) (hy : y < 4294967296) : IntKind.u32.wrap (BitVec.ofInt IntKind.u32.bits (x : Int) ^^^ BitVec.ofInt IntKind.u32.bits (y : Int)).toNat = ((x ^^^ y : Nat) : Int) := by
  rw [BitVec.toNat_xor, ofInt_u32 hx, ofInt_u32 hy]; exact wrap_u32N (Nat.xor_lt_two_pow (n := 32) hx hy)
theorem ZoV (x y : Nat) (hx : x < 4294967296) (hy : y < 4294967296) : PC C Zbq [.agg [.nilsl, .int .u32 0], .int .u32 (x : Int), .int .u32 (y : Int)] (fun o => o = .ret (.int .u32 ((bo 1 x y : Nat) : Int))) := by
  refine PC.run Zb2 Zeb rfl Zec rfl (rs := [.tmp 6]) (by rw [Zed]) (by simp only [List.length_cons, List.length_nil, Nat.reduceAdd, Nat.reduceSub, List.replicate_succ, List.replicate_zero, List.cons_append, List.nil_append]; exact rfl) ?_
  refine ARun.seq (ARun.region ?_)
  refine y_op rfl (q_boxF rfl rfl rfl rfl) ?_
  refine y_op rfl (Zaa rfl) ?_
  refine AOps.nil (ARun.seq (ARun.region ?_))
  refine y_op rfl (q_move rfl) ?_
  refine y_op rfl (q_move rfl) ?_
  refine y_op rfl (q_andR rfl rfl (land_u32 hx hy)) ?_
  refine y_op rfl (Zaa rfl) ?_
  refine AOps.nil ?_
  refine ARun.ret ?_
  refine ⟨_, _, _, .tmp rfl .nil, .cons (.same _) .nil, rfl, ?_⟩
  rfl
theorem Zpf (x y : Nat) (hx : x < 4294967296) (hy : y < 4294967296) : PC C ZbF [.agg [.nilsl, .int .u32 0], .int .u32 (x : Int), .int .u32 (y : Int)] (fun o => o = .ret (.int .u32 ((bo 2 x y : Nat) : Int))) := by
  refine PC.run Zcb ZeA rfl ZeB rfl (rs := [.tmp 6]) (by rw [ZeC]) (by simp only [List.length_cons, List.length_nil, Nat.reduceAdd, Nat.reduceSub, List.replicate_succ, List.replicate_zero, List.cons_append, List.nil_append]; exact rfl) ?_
  refine ARun.seq (ARun.region ?_)
  refine y_op rfl (q_boxF rfl rfl rfl rfl) ?_
  refine y_op rfl (Zaa rfl) ?_
  refine AOps.nil (ARun.seq (ARun.region ?_))
  refine y_op rfl (q_move rfl) ?_
  refine y_op rfl (q_move rfl) ?_
  refine y_op rfl (q_orR rfl rfl (lor_u32 hx hy)) ?_
  refine y_op rfl (Zaa rfl) ?_
  refine AOps.nil ?_
  refine ARun.ret ?_
  refine ⟨_, _, _, .tmp rfl .nil, .cons (.same _) .nil, rfl, ?_⟩
  rfl
theorem ZoW (x y : Nat) (hx : x < 4294967296) (hy : y < 4294967296) : PC C Zbr [.agg [.nilsl, .int .u32 0], .int .u32 (x : Int), .int .u32 (y : Int)] (fun o => o = .ret (.int .u32 ((bo 3 x y : Nat) : Int))) := by
  refine PC.run Zb3 Zee rfl Zef rfl (rs := [.tmp 6]) (by rw [Zeg]) (by simp only [List.length_cons, List.length_nil, Nat.reduceAdd, Nat.reduceSub, List.replicate_succ, List.replicate_zero, List.cons_append, List.nil_append]; exact rfl) ?_
  refine ARun.seq (ARun.region ?_)
  refine y_op rfl (q_boxF rfl rfl rfl rfl) ?_
  refine y_op rfl (Zaa rfl) ?_
  refine AOps.nil (ARun.seq (ARun.region ?_))
  refine y_op rfl (q_move rfl) ?_
  refine y_op rfl (q_move rfl) ?_
  refine y_op rfl (q_xorR rfl rfl (lxor_u32 hx hy)) ?_
  refine y_op rfl (Zaa rfl) ?_
  refine AOps.nil ?_
  refine ARun.ret ?_
  refine ⟨_, _, _, .tmp rfl .nil, .cons (.same _) .nil, rfl, ?_⟩
  rfl
theorem okCells2 {H : Heap} {a b : D} (h1 : okCell H a = true) (h2 : okCell H b = true) : [a, b].all (okCell H) = true := by
  simp only [List.all_cons, List.all_nil, h1, h2, Bool.and_true]
abbrev wrD (l : List Nat) (b : Bool) : D := .agg [sln .u32 l, .int .u32 ((rsN b : Nat) : Int)]
def elL (l : List Nat) (b : Bool) (i : Nat) : Nat := if i < l.length then l.getD i 0 else rsN b
theorem Zoq (l : List Nat) (b : Bool) (i : Nat) : PC C ZfQ [wrD l b, .int .i64 (i : Int)] (fun o => o = .ret (.int .u32 ((elL l b i : Nat) : Int))) := by
  refine PC.run Zcc ZeD rfl ZeE rfl (rs := [.tmp 4]) (by rw [ZeF]) (by simp only [List.length_cons, List.length_nil, Nat.reduceAdd, Nat.reduceSub, List.replicate_succ, List.replicate_zero, List.cons_append, List.nil_append]; exact rfl) ?_
  refine ARun.seq (ARun.region ?_)
  refine y_op rfl (q_boxF rfl rfl rfl rfl) ?_
  refine y_op rfl (Zaa rfl) ?_
  refine AOps.nil (ARun.seq (ARun.seq (ARun.region ?_)))
  refine y_op rfl (q_move rfl) ?_
  refine y_op rfl (q_fldS rfl rfl rfl (by decide)) ?_
  refine y_op rfl (q_load rfl rfl rfl rfl) ?_
  refine y_op rfl (Zad rfl rfl) ?_
  refine y_op rfl (q_int rfl rfl rfl) ?_
  refine AOps.nil ?_
  refine ARun.ite rfl (fun h => ?_) (fun h => ?_)
  · skip
    refine ARun.seq (ARun.region ?_)
    refine y_op rfl (q_fldS rfl rfl rfl (by decide)) ?_
    refine y_op rfl (q_load rfl rfl rfl rfl) ?_
    refine y_op rfl (q_move rfl) ?_
    refine y_op rfl (Zan (i := i) rfl rfl rfl rfl (by omega) (by omega) (nts_ne (by omega)) (drop_nat rfl)) ?_
    refine y_op rfl (q_load rfl rfl rfl (nts_load (i := i) (by omega))) ?_
    refine y_op rfl (Zaa rfl) ?_
    refine AOps.nil ?_
    refine ARun.ret ?_
    refine ⟨_, _, _, .tmp rfl .nil, .cons (.same _) .nil, rfl, ?_⟩
    rw [elL, if_pos (by omega)]; rfl
  · skip
    refine ARun.skip (ARun.seq (ARun.region ?_))
    refine y_op rfl (q_fldS rfl rfl rfl (by decide)) ?_
    refine y_op rfl (q_load rfl rfl rfl rfl) ?_
    refine y_op rfl (Zaa rfl) ?_
    refine AOps.nil ?_
    refine ARun.ret ?_
    refine ⟨_, _, _, .tmp rfl .nil, .cons (.same _) .nil, rfl, ?_⟩
    rw [elL, if_neg (by omega)]; rfl
theorem Zfz (xs : List Nat) (hx : U32 xs) : PC C Zhs [sln .u32 xs] (fun o => o = .ret (numD (val xs))) := by
  refine PC.run ZcD Zgk rfl Zgl rfl (rs := [.tmp 2]) (by rw [Zgm]) (by simp only [List.length_cons, List.length_nil, Nat.reduceAdd, Nat.reduceSub, List.replicate_succ, List.replicate_zero, List.cons_append, List.nil_append]; exact rfl) ?_
  refine ARun.lenle 0 rfl (fun hlen => ?_)
  rw [maxLen_eq] at hlen
  refine ARun.seq (ARun.region ?_)
  refine y_op rfl (Zaa rfl) ?_
  refine AOps.nil (ARun.seq (ARun.block ?_))
  refine ARun.loopI (S := List Nat) (fun ys : List Nat => [(3, .any), (4, .any), (5, .any), (6, .any), (7, .any), (8, .any), (9, .any), (10, .any), (11, .any), (12, .any), (13, .any), (14, .any), (15, .any), (16, .any), (17, .any), (18, .any), (19, .any), (0, sln .u32 ys)]) (fun ys : List Nat => []) (fun ys : List Nat => U32 ys ∧ val ys = val xs ∧ ys.length ≤ xs.length) (fun ys : List Nat => ys.length) (xs) ?_ ?_ ?_ ?_
  · exact ⟨hx, rfl, Nat.le_refl _⟩
  · (repeat' first | exact envLe_nil | apply envLe_any | apply envLe_same)
  · rfl
  rintro ys hinv ih
  obtain ⟨hu, hv, hl⟩ := hinv
  refine ARun.seq (ARun.seq (ARun.region ?_))
  refine y_op rfl (q_move rfl) ?_
  refine y_op rfl (Zad rfl rfl) ?_
  refine y_op rfl (q_int rfl rfl rfl) ?_
  refine y_op rfl (q_move rfl) ?_
  refine AOps.bool 6 rfl (fun h => ?_) (fun h => ?_)
  · skip
    replace h := of_decide_eq_true h
    refine y_op rfl (q_move rfl) ?_
    refine y_op rfl (q_move rfl) ?_
    refine y_op rfl (Zad rfl rfl) ?_
    refine y_op rfl (q_sub rfl rfl (nsub1_i64 (by omega) (by omega))) ?_
    refine y_op rfl (Zan rfl rfl rfl rfl (by omega) (by omega) (nts_ne (by omega)) (drop_nat rfl)) ?_
    refine y_op rfl (q_load rfl rfl rfl (nts_load (by omega))) ?_
    refine y_op rfl (q_int rfl rfl rfl) ?_
    refine y_op rfl (q_pick rfl rfl rfl rfl) ?_
    refine AOps.nil ?_
    refine ARun.ite rfl (fun h2 => ?_) (fun h2 => ?_)
    · skip
      replace h2 : ys.getD (ys.length - 1) 0 = 0 := by omega
      refine ARun.skip (ARun.block (ARun.region ?_))
      refine y_op rfl (q_move rfl) ?_
      refine y_op rfl (q_move rfl) ?_
      refine y_op rfl (Zad rfl rfl) ?_
      refine y_op rfl (q_sub rfl rfl (nsub1_i64 (by omega) (by omega))) ?_
      refine y_op rfl (Zdj (m := ys.dropLast.length) (ds := nts .u32 ys.dropLast) rfl rfl rfl rfl rfl (bnd_nat rfl rfl) (by omega) (by omega) (by simp) (by simp) (by rw [nts_slice]; simp [List.dropLast_eq_take])) ?_
      refine y_op rfl (Zaa rfl) ?_
      refine AOps.nil (ARun.inBlock ?_)
      refine ARun.again (ih (ys.dropLast) ?_ ?_) ?_ ?_
      · exact ⟨hu.dropLast, by rw [val_dropLast h2]; exact hv, by simp; omega⟩
      · (simp; omega)
      · (repeat' first | exact envLe_nil | apply envLe_any | apply envLe_same)
      · rfl
    · skip
      refine ARun.exit rfl ?_
      refine ARun.seq (ARun.region ?_)
      refine y_op rfl (q_move rfl) ?_
      refine y_op rfl (Zaa rfl) ?_
      refine AOps.nil ?_
      refine ARun.ret ?_
      refine ⟨_, _, _, .tmp rfl .nil, .cons (.same _) .nil, rfl, ?_⟩
      rw [← hv, numD, lim_val hu (.inr (by omega))]
      rfl
  · skip
    replace h := of_decide_eq_false h
    refine y_skip rfl ?_
    refine y_skip rfl ?_
    refine y_skip rfl ?_
    refine y_skip rfl ?_
    refine y_skip rfl ?_
    refine y_skip rfl ?_
    refine y_skip rfl ?_
    refine y_op rfl (q_pick rfl rfl rfl rfl) ?_
    refine AOps.nil ?_
    refine ARun.condF rfl ?_
    refine ARun.exit rfl ?_
    refine ARun.seq (ARun.region ?_)
    refine y_op rfl (q_move rfl) ?_
    refine y_op rfl (Zaa rfl) ?_
    refine AOps.nil ?_
    refine ARun.ret ?_
    refine ⟨_, _, _, .tmp rfl .nil, .cons (.same _) .nil, rfl, ?_⟩
    have : ys = [] := List.eq_nil_of_length_eq_zero (by omega)
    subst this
    rw [← hv, numD, val, lim_zero]
    rfl
theorem wl_snoc {l : List Nat} {i : Nat} (h : i < l.length) : (l.take (i + 1)).map (fun x => 4294967295 - x) = (l.take i).map (fun x => 4294967295 - x) ++ [4294967295 - l.getD i 0] := by
  rw [List.take_add_one, List.getElem?_eq_getElem h, List.getD_eq_getElem?_getD, List.getElem?_eq_getElem h, List.map_append]
  rfl
theorem Zdo (a : Int) (ha : fitZ a) : PC C Zeh [intD a] (fun o => o = .ret (wrD (wl a) (decide (a < 0)))) := by
  refine PC.run ZbP ZdK rfl ZdL rfl (rs := [.cell 2 150]) (by rw [ZdM]) (by simp only [List.length_cons, List.length_nil, Nat.reduceAdd, Nat.reduceSub, List.replicate_succ, List.replicate_zero, List.cons_append, List.nil_append]; exact rfl) ?_
  refine ARun.seq (ARun.region ?_)
  refine y_op rfl (q_boxF rfl rfl rfl rfl) ?_
  refine y_new rfl (Zag rfl rfl rfl rfl) ?_
  refine AOps.nil (ARun.seq (ARun.seq (ARun.region ?_)))
  refine y_op rfl (q_fldS rfl rfl rfl (by decide)) ?_
  refine y_op rfl (q_load rfl rfl rfl rfl) ?_
  refine y_op rfl (q_not rfl) ?_
  refine AOps.nil ?_
  refine ARun.cond rfl (fun hs => ?_) (fun hs => ?_)
  · skip
    have hs : ¬ a < 0 := by simpa using hs
    refine ARun.seq (ARun.region ?_)
    refine y_op rfl (q_fldS rfl rfl rfl (by decide)) ?_
    refine y_op rfl (q_load rfl rfl rfl rfl) ?_
    refine y_op rfl (Zap rfl rfl rfl rfl rfl) ?_
    refine y_new rfl (Zac rfl rfl rfl rfl rfl rfl rfl rfl (Nat.le_of_ble_eq_true rfl) rfl) ?_
    refine AOps.nil ?_
    refine ARun.ret ?_
    refine ⟨_, _, _, ResR.cellA rfl rfl rfl rfl rfl rfl .nil, .cons (.same _) .nil, rfl, ?_⟩
    rw [decide_eq_false hs, wl, if_neg hs]; rfl
  · skip
    have hs : a < 0 := by simpa using hs
    have hone : (lim 1).length ≤ 1024 := by rw [lim_one]; decide
    have hl1 : (lim (a.natAbs - 1)).length ≤ 1024 := Nat.le_trans (ln_mono (Nat.sub_le _ _)) ha
    have hsub := natSub_ok ha hone (show 1 ≤ a.natAbs by omega)
    rw [← numD_one] at hsub
    refine ARun.skip (ARun.seq (ARun.region ?_))
    refine y_op rfl (Zap rfl rfl rfl rfl rfl) ?_
    refine y_new rfl (Zag rfl rfl rfl rfl) ?_
    refine y_new rfl (Zac rfl rfl rfl rfl rfl rfl rfl rfl (Nat.le_of_ble_eq_true rfl) rfl) ?_
    refine AOps.nil (ARun.seq (ARun.seq (ARun.region ?_)))
    refine y_op rfl (q_fldS rfl rfl rfl (by decide)) ?_
    refine y_op rfl (q_load rfl rfl rfl rfl) ?_
    refine y_op rfl (Zaq rfl rfl rfl rfl rfl rfl rfl rfl rfl rfl rfl (by decide) (by decide) rfl) ?_
    refine y_op rfl (q_call rfl rfl (hsub)) ?_
    refine y_op rfl (Zab rfl rfl) ?_
    refine y_op rfl (Zab rfl rfl) ?_
    refine y_op rfl (q_call rfl rfl (ZaU (a.natAbs - 1))) ?_
    refine y_op rfl (Zad rfl rfl) ?_
    refine y_op rfl (q_move rfl) ?_
    refine AOps.nil (ARun.block ?_)
    refine ARun.loopI (S := Nat × Heap) (fun σ : Nat × Heap => [(5, .any), (22, .any), (23, .any), (24, .any), (25, .any), (26, .any), (27, .any), (28, .any), (29, .any), (30, .any), (31, .any), (32, .any), (21, .int .i64 (σ.1 : Int))]) (fun σ : Nat × Heap => some ⟨[.nilsl, .int .u32 0], Zbh, 1, true, none⟩ :: some ⟨[growD (2 + σ.2.length) (nts .u32 (((lim (a.natAbs - 1)).take σ.1).map (fun x => 4294967295 - x))), .int .u32 4294967295], Zbh, 1, true, none⟩ :: growT σ.2 Zah (nts .u32 (((lim (a.natAbs - 1)).take σ.1).map (fun x => 4294967295 - x)))) (fun σ : Nat × Heap => σ.1 ≤ (lim (a.natAbs - 1)).length) (fun σ : Nat × Heap => (lim (a.natAbs - 1)).length - σ.1) ((0, [])) ?_ ?_ ?_ ?_
    · exact Nat.zero_le _
    · (repeat' first | exact envLe_nil | apply envLe_any | apply envLe_same)
    · rfl
    rintro ⟨i, J⟩ hinv ih
    dsimp only at hinv ih ⊢
    have hlen : (((lim (a.natAbs - 1)).take i).map (fun x => 4294967295 - x)).length = i := by rw [List.length_map, List.length_take]; omega
    have hbl : (nts .u32 (((lim (a.natAbs - 1)).take i).map (fun x => 4294967295 - x))).length = i := by rw [nts_length, hlen]
    refine ARun.seq (ARun.region ?_)
    refine y_op rfl (q_int rfl rfl rfl) ?_
    refine AOps.nil (ARun.seq ?_)
    refine ARun.ite rfl (fun h => ?_) (fun h => ?_)
    · skip
      have hi : i < (lim (a.natAbs - 1)).length := by omega
      refine ARun.skip (ARun.seq (ARun.block (ARun.seq (ARun.region ?_))))
      refine y_op rfl (Zan rfl rfl rfl rfl (by omega) (by omega) (nts_ne (by omega)) (drop_nat rfl)) ?_
      refine y_op rfl (q_load rfl rfl rfl (lim_load hi)) ?_
      refine y_op rfl (Zaa rfl) ?_
      refine AOps.nil (ARun.region ?_)
      refine y_op rfl (q_fldP rfl rfl rfl (by decide)) ?_
      refine y_op rfl (Zak rfl rfl rfl rfl rfl) ?_
      refine y_op rfl (q_move rfl) ?_
      refine y_op rfl (Zn2 rfl (compl_u32 (dig_lt _ i))) ?_
      refine y_new rfl (Zam rfl rfl rfl rfl rfl rfl rfl rfl rfl rfl rfl (by decide) (by decide)) ?_
      refine y_grow rfl rfl rfl rfl rfl rfl rfl rfl rfl rfl (by show (_ + 1) * 4 ≤ _; omega) (by omega) (fun J' => ?_)
      refine y_op rfl (q_fldP rfl rfl rfl (by decide)) ?_
      refine y_new rfl (Zai rfl rfl rfl (okCell_grow (B := [_, _]) rfl) rfl rfl (Nat.le_of_ble_eq_true rfl) rfl) ?_
      refine AOps.nil (ARun.inBlock (ARun.region ?_))
      refine y_op rfl (q_add rfl rfl (nadd1_i64 (by omega))) ?_
      refine y_op rfl (q_move rfl) ?_
      refine AOps.nil ?_
      rw [nts_snoc, ← lim_get, ← wl_snoc hi]
      refine ARun.again (ih ((i + 1, J')) ?_ ?_) ?_ ?_
      · exact hi
      · (dsimp only; omega)
      · (repeat' first | exact envLe_nil | apply envLe_any | apply envLe_same)
      · rfl
    · skip
      obtain rfl : i = (lim (a.natAbs - 1)).length := by omega
      rw [List.take_length]
      obtain ⟨ids, hz⟩ := Fz.grow (B := [some ⟨[growD (2 + J.length) (nts .u32 ((lim (a.natAbs - 1)).map (fun x => 4294967295 - x))), .int .u32 4294967295], Zbh, 1, true, none⟩, some ⟨[growD (2 + J.length) (nts .u32 ((lim (a.natAbs - 1)).map (fun x => 4294967295 - x))), .int .u32 4294967295], Zbh, 1, true, none⟩]) (J := J) (e := Zah) (cs := nts .u32 ((lim (a.natAbs - 1)).map (fun x => 4294967295 - x))) (m := 2 + J.length) rfl (pures_nts _)
      refine ARun.exit rfl ?_
      refine ARun.seq (ARun.region ?_)
      refine y_op rfl (Zaf rfl rfl rfl rfl rfl rfl) ?_
      refine y_new rfl (Zac rfl rfl rfl rfl rfl (okCells2 (okCell_grow (B := [_, _]) rfl) rfl) rfl rfl (Nat.le_of_ble_eq_true rfl) rfl) ?_
      refine AOps.nil ?_
      refine ARun.ret ?_
      refine ⟨_, _, _, ResR.cellA rfl rfl rfl rfl rfl rfl .nil, .cons (.agg (.cons hz (.cons (.same _) .nil))) .nil, rfl, ?_⟩
      rw [decide_eq_true hs, wl, if_pos hs, nts_length]; rfl
end Go.V
set_option maxHeartbeats 4000000
set_option maxRecDepth 100000
set_option synthInstance.maxSize 100000
set_option synthInstance.maxHeartbeats 2000000
namespace Go.V
open Go.RowKit Go.Proofs
theorem valid_lim {n : Nat} (hl : (lim n).length ≤ 1024) : PC C Zg0 [numD n] (fun o => o = .ret (.bool true)) :=
  (Zdk (lim n) inferInstance).mono fun o ho => by rw [ho, decide_eq_true (show okNat (lim n) from ⟨hl, Canon_lim n⟩)]
theorem need_ok (e : Int) : PC C Zfh [.bool true, .int .i64 e] (fun o => o = .ret (.tup [])) :=
  (ZaH true e).mono fun o ho => (ho.resolve_right (fun h => by cases h.1)).2
theorem must_add1 {a : Nat} (ha : (lim a).length ≤ 1024) : PC C ZaK [numD (resN (lim a) (lim 1) (.inl (val (lim a) + val (lim 1)))).1, .int .i64 (resN (lim a) (lim 1) (.inl (val (lim a) + val (lim 1)))).2] (fun o => ((lim (a + 1)).length ≤ 1024 ∧ o = .ret (numD (a + 1))) ∨ ∃ p, (¬ (lim (a + 1)).length ≤ 1024 ∧ p = failW 2) ∧ o = .pan p) := by
  rw [val_lim, val_lim]
  exact must_add ha (by rw [lim_one]; decide)
theorem inv_nat {l : List Nat} (hu : U32 l) : -((val (l.map (fun x => 4294967295 - x)) + 1 : Nat) : Int) = ivZ l true := by
  have := val_inv hu
  unfold ivZ
  rw [cond_true]
  omega
theorem Zll (l : List Nat) (hu : U32 l) (b : Bool) (hl : l.length ≤ 1024) : PC C Zbx [wrD l b] (fun o => o = outZ (fitO (ivZ l b))) := by
  refine PC.run Zbn ZcJ rfl ZcK rfl (rs := [.cell 2 25]) (by rw [ZcL]) (by simp only [List.length_cons, List.length_nil, Nat.reduceAdd, Nat.reduceSub, List.replicate_succ, List.replicate_zero, List.cons_append, List.nil_append]; exact rfl) ?_
  refine ARun.seq (ARun.region ?_)
  refine y_op rfl (q_boxF rfl rfl rfl rfl) ?_
  refine y_new rfl (Zag rfl rfl rfl rfl) ?_
  refine AOps.nil (ARun.seq (ARun.seq (ARun.region ?_)))
  refine y_op rfl (q_fldS rfl rfl rfl (by decide)) ?_
  refine y_op rfl (q_load rfl rfl rfl rfl) ?_
  refine y_op rfl (q_int rfl rfl rfl) ?_
  refine AOps.nil ?_
  refine ARun.ite rfl (fun h => ?_) (fun h => ?_)
  · skip
    obtain rfl : b = false := by
      cases b with
      | false => rfl
      | true => exact absurd h (by decide)
    have hv : (lim (val l)).length ≤ 1024 := Nat.le_trans (ln_le (val_lt hu)) hl
    have hi : ivZ l false = sgnd false (val l) := by unfold ivZ sgnd; rw [cond_false, cond_false]; omega
    have hf : fitZ (ivZ l false) := by unfold fitZ; rw [hi, sgnd_abs]; exact hv
    rw [fitO_t hf, hi]
    refine ARun.seq (ARun.region ?_)
    refine y_op rfl (q_fldS rfl rfl rfl (by decide)) ?_
    refine y_op rfl (q_load rfl rfl rfl rfl) ?_
    refine y_op rfl (q_call rfl rfl (Zfz l hu)) ?_
    refine y_op rfl (Zaa rfl) ?_
    refine AOps.nil (ARun.seq (ARun.region ?_))
    refine y_op rfl (q_move rfl) ?_
    refine y_op rfl (q_call rfl rfl (valid_lim hv)) ?_
    refine y_op rfl (q_call rfl rfl (need_ok 2)) ?_
    refine AOps.nil (ARun.seq (ARun.region ?_))
    refine y_op rfl (q_move rfl) ?_
    refine y_op rfl (q_call rfl rfl (Zal false (val l))) ?_
    refine y_new rfl (Zac rfl rfl rfl rfl rfl rfl rfl rfl (Nat.le_of_ble_eq_true rfl) rfl) ?_
    refine AOps.nil ?_
    refine ARun.ret ?_
    refine ⟨_, _, _, ResR.cellA rfl rfl rfl rfl rfl rfl .nil, .cons (.same _) .nil, rfl, ?_⟩
    rfl
  · skip
    obtain rfl : b = true := by
      cases b with
      | true => rfl
      | false => exact absurd rfl h
    refine ARun.skip (ARun.seq (ARun.region ?_))
    refine y_op rfl (Zaa rfl) ?_
    refine AOps.nil (ARun.seq (ARun.seq (ARun.region ?_)))
    refine y_op rfl (q_fldS rfl rfl rfl (by decide)) ?_
    refine y_op rfl (q_load rfl rfl rfl rfl) ?_
    refine y_op rfl (Zad rfl rfl) ?_
    refine y_op rfl (q_move rfl) ?_
    refine AOps.nil (ARun.block ?_)
    refine ARun.loopI (S := Nat × Heap) (fun σ : Nat × Heap => [(6, .any), (23, .any), (24, .any), (25, .any), (26, .any), (27, .any), (28, .any), (29, .any), (30, .any), (31, .any), (4, growD (1 + σ.2.length) (nts .u32 ((l.take σ.1).map (fun x => 4294967295 - x)))), (22, .int .i64 (σ.1 : Int))]) (fun σ : Nat × Heap => some ⟨[.bool false, .nilsl], ZcS, 1, true, none⟩ :: growT σ.2 Zah (nts .u32 ((l.take σ.1).map (fun x => 4294967295 - x)))) (fun σ : Nat × Heap => σ.1 ≤ l.length) (fun σ : Nat × Heap => l.length - σ.1) ((0, [])) ?_ ?_ ?_ ?_
    · exact Nat.zero_le _
    · (repeat' first | exact envLe_nil | apply envLe_any | apply envLe_same)
    · rfl
    rintro ⟨i, J⟩ hinv ih
    dsimp only at hinv ih ⊢
    have hlen : ((l.take i).map (fun x => 4294967295 - x)).length = i := by rw [List.length_map, List.length_take]; omega
    have hbl : (nts .u32 ((l.take i).map (fun x => 4294967295 - x))).length = i := by rw [nts_length, hlen]
    refine ARun.seq (ARun.region ?_)
    refine y_op rfl (q_int rfl rfl rfl) ?_
    refine AOps.nil (ARun.seq ?_)
    refine ARun.ite rfl (fun h2 => ?_) (fun h2 => ?_)
    · skip
      have hi : i < l.length := by omega
      refine ARun.skip (ARun.seq (ARun.block (ARun.seq (ARun.region ?_))))
      refine y_op rfl (Zan rfl rfl rfl rfl (by omega) (by omega) (nts_ne (by omega)) (drop_nat rfl)) ?_
      refine y_op rfl (q_load rfl rfl rfl (nts_load hi)) ?_
      refine y_op rfl (Zaa rfl) ?_
      refine AOps.nil (ARun.region ?_)
      refine y_op rfl (q_move rfl) ?_
      refine y_op rfl (q_move rfl) ?_
      refine y_op rfl (Zn2 rfl (compl_u32 (hu.get i))) ?_
      refine y_new rfl (Zam rfl rfl rfl rfl rfl rfl rfl rfl rfl rfl rfl (by decide) (by decide)) ?_
      refine y_grow rfl rfl rfl rfl rfl rfl rfl rfl rfl rfl (by show (_ + 1) * 4 ≤ _; omega) (by omega) (fun J' => ?_)
      rw [nts_snoc, ← wl_snoc hi]
      refine y_op rfl (Zaa rfl) ?_
      refine AOps.nil (ARun.inBlock (ARun.region ?_))
      refine y_op rfl (q_add rfl rfl (nadd1_i64 (by omega))) ?_
      refine y_op rfl (q_move rfl) ?_
      refine AOps.nil ?_
      refine ARun.again (ih ((i + 1, J')) ?_ ?_) ?_ ?_
      · exact hi
      · (dsimp only; omega)
      · (repeat' first | exact envLe_nil | apply envLe_any | apply envLe_same)
      · rfl
    · skip
      obtain rfl : i = l.length := by omega
      rw [List.take_length]
      have hi := inv_nat hu
      generalize hX : l.map (fun x => 4294967295 - x) = X at *
      have hXu : U32 X := by rw [← hX]; exact U32_inv
      have hXl : X.length ≤ 1024 := by rw [← hX, List.length_map]; exact hl
      have hv : (lim (val X)).length ≤ 1024 := Nat.le_trans (ln_le (val_lt hXu)) hXl
      have hone : (lim 1).length ≤ 1024 := by rw [lim_one]; decide
      refine ARun.growEnd 4 rfl (pures_nts _) (fun J' => ?_)
      rw [sln_len]
      refine ARun.exit rfl ?_
      refine ARun.seq (ARun.region ?_)
      refine y_op rfl (q_move rfl) ?_
      refine y_op rfl (q_call rfl rfl (Zfz X hXu)) ?_
      refine y_op rfl (Zaa rfl) ?_
      refine AOps.nil (ARun.seq (ARun.region ?_))
      refine y_op rfl (q_move rfl) ?_
      refine y_op rfl (q_call rfl rfl (valid_lim hv)) ?_
      refine y_op rfl (q_call rfl rfl (need_ok 2)) ?_
      refine AOps.nil (ARun.seq (ARun.region ?_))
      refine y_op rfl (q_move rfl) ?_
      refine y_op rfl (OpQ.cast (Zaq rfl rfl rfl rfl rfl rfl rfl rfl rfl rfl rfl (by decide) (by decide) rfl) numD_one) ?_
      refine y_op rfl (q_call rfl rfl (Ze4 (lim (val X)) (lim 1) (U32_lim _) (U32_lim _))) ?_
      refine y_op rfl (Zab rfl rfl) ?_
      refine y_op rfl (Zab rfl rfl) ?_
      refine y_gop rfl (g_call (g := (lim (val X + 1)).length ≤ 1024) (d := numD (val X + 1)) rfl rfl (must_add1 hv)) (fun hg => ?_) (fun q hq => by obtain ⟨hq, rfl⟩ := hq; exact ⟨_, _, .same _, rfl, by rw [fitO_f (by unfold fitZ; rw [← hi, Int.natAbs_neg, Int.natAbs_natCast]; exact hq)]; rfl⟩)
      have hf : fitZ (ivZ l true) := by unfold fitZ; rw [← hi, Int.natAbs_neg, Int.natAbs_natCast]; exact hg
      rw [fitO_t hf, ← hi]
      refine y_op rfl (q_call rfl rfl (Zal true (val X + 1))) ?_
      refine y_new rfl (Zac rfl rfl rfl rfl rfl rfl rfl rfl (Nat.le_of_ble_eq_true rfl) rfl) ?_
      refine AOps.nil ?_
      refine ARun.ret ?_
      refine ⟨_, _, _, ResR.cellA rfl rfl rfl rfl rfl rfl .nil, .cons (.same _) .nil, rfl, ?_⟩
      rfl
end Go.V
/- METHODS BOUND TO THEIR RECEIVERS. -/
set_option maxHeartbeats 1000000
namespace Go.V
open Go.RowKit Go.Proofs
section
variable {C : Ctx} {env : List D} {H : Heap} {dst : Option Tmp} {ty : TypeId} {pos : String} {aft : Array Edge} {gd : Option (Nat × Bool)} {x : Operand} {d : D}
theorem Zpg {f : FuncId} {caps ds ds' : List D} {ids : List Nat} {args : List Operand} {tys : Array TypeId} {R : Out → Heap → Prop} (hx : evO C env x = some (.bnd f caps)) (ha : evOs C env args = some ds) (hz : FzL H (caps ++ ds) ds' ids) (hc : HC C f (frz H ids) ds' R) :
    OpH C ⟨dst, .call ⟨.value x, args.toArray, tys⟩, ty, pos, aft, gd⟩ env H (fun d H' => R (.ret d) H') (fun d H' => R (.pan d) H') := by
  refine ⟨fun L0 w μ a hs hv => ?_⟩
  have ex := evO_ok hs hv hx
  have ea := evOs_ok hs hv ha
  simp only [VR] at ex
  obtain ⟨cvs, ex, ec⟩ := ex
  obtain ⟨hs', he'⟩ := hs.weak (HWeak.frz (ids := ids))
  have st := he'.step L0
  have hargs := FzL.ok hs' hz (fun i hi o ho => frz_dead hi ho) (VRs.step st (VRs_append ec ea))
  have hcall := hc.2 L0 w μ _ hs' hargs
  have hrun : (execOp a.eval ⟨dst, .call ⟨.value x, args.toArray, tys⟩, ty, pos, aft, gd⟩).run C.P w = .ok (.enter f (cvs ++ args.map a.eval).toArray) w := by
    have h1 : (args.toArray.map a.eval) = (args.map a.eval).toArray := by simp
    simp only [execOp, resolve, h1, ex, Deferred.ofValue, Sem.run_bind, Sem.run_pure, Result.andThen_ok, invoke]
    have h2 : (cvs.toArray ++ (args.map a.eval).toArray ++ #[] : Array Value) = (cvs ++ args.map a.eval).toArray := by simp
    rw [h2]
    exact hc.1 _ _
  unfold Oper.wp
  rw [hrun]
  refine hcall.mono fun e w' hf => ?_
  obtain ⟨o, H1, μ1, hR, s1, hO, e1⟩ := hf
  cases o with
  | ret d =>
    obtain ⟨v, rfl, hd⟩ := hO
    exact ⟨v, d, H1, μ1, hR, rfl, s1, hd, he'.trans e1⟩
  | pan d =>
    obtain ⟨v, rfl, hd⟩ := hO
    exact ⟨v, d, H1, μ1, rfl, rfl, hR, s1, hd, he'.trans e1⟩
theorem Zor {f : FuncId} {caps ds : List D} {args : List Operand} {tys : Array TypeId} (hx : evO C env x = some (.bnd f caps)) (ha : evOs C env args = some ds) (hc : PC C f (caps ++ ds) (fun o => o = .ret d)) : OpQ C ⟨dst, .call ⟨.value x, args.toArray, tys⟩, ty, pos, aft, gd⟩ env H d :=
  OpH.mono (fun d' H' ⟨h1, h2⟩ => by injection h2 with h2; exact ⟨h2, h1⟩) (fun d' H' ⟨_, h2⟩ => by cases h2) (Zpg (H := H) (ids := []) hx ha (FzL.sames _) (hc H))
theorem Ze8 {f : FuncId} {caps : List Operand} {ds : List D} (h : evOs C env caps = some ds) : OpQ C ⟨dst, .makeFunc (.func f) caps.toArray #[], ty, pos, aft, gd⟩ env H (.bnd f ds) := by
  refine ⟨fun L0 w μ a hs hv => ?_⟩
  have h1 := evOs_ok hs hv h
  have : (execOp a.eval ⟨dst, .makeFunc (.func f) caps.toArray #[], ty, pos, aft, gd⟩).run C.P w = .ok (.value (.func (.func f) (caps.map a.eval).toArray #[])) w := by
    simp [execOp, Instr.makeFunc]
  unfold Oper.wp
  rw [this]
  exact ⟨_, .bnd f ds, H, μ, ⟨rfl, rfl⟩, rfl, hs, by simp only [VR]; exact ⟨_, rfl, h1⟩, Evo.refl _ _ _⟩
end
section
variable {C : Ctx} {Q : Post} {k : List Item} {env env' : List D} {H : Heap} {df : List ADef} {ops : Array Oper} {rest : List Oper} {i : Nat} {is : List Nat} {d dx : D}
variable {dst : Option Tmp} {ty : TypeId} {pos : String} {aft : Array Edge} {gd : Option (Nat × Bool)} {x y : Operand} {T e : TypeId} {te tee : TE} {n b S : Nat} {J : Heap} {cs : List D} {F : Heap → Heap} {zv : Value} {dz : D} {zs : List D}
theorem Zph [g : GrowL H n J e cs F] (ht : C.ty T = some ⟨.slice e, S, b, zv⟩) (hee : C.ty e = some tee) (h1 : tee.size = 1) (hz : constD tee.zero = some dz) (hzs : cellsD dz = some zs) (hzl : zs.length = 1)
    (hx : evO C env x = some (growD (n + J.length) cs)) (hy : evO C env y = some (.sl 1 [dx])) (hb : (cs.length + 1) * tee.bytes ≤ 140737488355328) (hm : cs.length + 1 ≤ 1099511627776) :
    OpH C ⟨dst, .call ⟨.builtin .append, #[x, y], #[T, T]⟩, ty, pos, aft, gd⟩ env H (fun d H' => ∃ J' : Heap, d = growD (n + J'.length) (cs ++ [dx]) ∧ H' = F (growT J' e (cs ++ [dx]))) (fun _ _ => False) := by
  obtain ⟨B, g1, g2, g3⟩ := g.prf
  obtain ⟨sk, sz, sb, sv⟩ := tee
  subst h1
  subst g3
  subst g1
  have hsrc : srcD H (.sl 1 [dx]) = some (1, [dx]) := rfl
  replace hm : cs.length + 1 ≤ maxLen := by rw [maxLen_eq]; omega
  cases cs with
  | nil =>
    subst g2
    have h := Zhz (C := C) (dst := dst) (ty := ty) (pos := pos) (aft := aft) (gd := gd) (ty_slice ht) (ty_tic hee).1 (Nat.one_pos) hz hzs hzl hx hy hsrc rfl (by decide) (by simpa using hb) (by simpa using hm)
    refine OpH.mono ?_ (fun _ _ h => h) h
    rintro d H' ⟨rfl, rfl⟩
    refine ⟨J, ?_, ?_⟩
    · simp [growD, growT]
    · simp [growT]
  | cons c cs =>
    subst g2
    have ho : (B ++ growT J e (c :: cs))[B.length + J.length]? = some (some ⟨c :: cs, e, 1, true, none⟩) := by
      simp only [growT]
      rw [List.getElem?_append_right (by omega), Nat.add_sub_cancel_left, List.getElem?_append_right (by omega)]
      simp
    have h := ZjF (C := C) (dst := dst) (ty := ty) (pos := pos) (aft := aft) (gd := gd) (ty_slice ht) (ty_tic hee).1 (Nat.one_pos) hz hzs hzl (n := cs.length + 1) (m := 1) hx ho rfl rfl rfl hy hsrc rfl (by simpa using hb) (by simpa using hm)
    refine OpH.mono ?_ (fun _ _ h => h) h
    rintro d H' ⟨rfl, rfl⟩
    refine ⟨J ++ [none], ?_, ?_⟩
    · simp [growD, growT, Nat.add_assoc]
    · have e1 : ∀ r : Option AObj, B ++ (J ++ [r]) = (B ++ J) ++ [r] := fun r => by simp
      simp only [growT, List.cons_append]
      rw [e1, List.set_append_right _ _ (by simp), show B.length + J.length - (B ++ J).length = 0 by simp]
      simp
theorem Zos [g : GrowL H n J e cs F] {E : Heap → List D} (hg : gOk ops.toList env gd = some true) (ht : C.ty T = some ⟨.slice e, S, b, zv⟩) (hee : C.ty e = some tee) (h1 : tee.size = 1) (hz : constD tee.zero = some dz) (hzs : cellsD dz = some zs) (hzl : zs.length = 1)
    (hx : evO C env x = some (growD (n + J.length) cs)) (hy : evO C env y = some (.sl 1 [dx])) (hb : (cs.length + 1) * tee.bytes ≤ 140737488355328) (hm : cs.length + 1 ≤ 1099511627776)
    [hp : ∀ J' : Heap, Put env dst (growD (n + J'.length) (cs ++ [dx])) (E J')] (hk : ∀ J' : Heap, AOps C Q ops rest k (E J') (F (growT J' e (cs ++ [dx]))) df) :
    AOps C Q ops (⟨dst, .call ⟨.builtin .append, #[x, y], #[T, T]⟩, ty, pos, aft, gd⟩ :: rest) k env H df :=
  AOps.opH hg (Zph ht hee h1 hz hzs hzl hx hy hb hm) (fun d H' ⟨J', h1, h2⟩ => by subst h1; subst h2; have := (hp J').eq; simp only at this ⊢; rw [this]; exact hk J') (fun _ _ h => h.elim)
theorem ARun.growEndA [g : GrowL H n J e cs F] (t : Nat) {d0 : D} (ht : env[t]? = some (.agg [growD (n + J.length) cs, d0])) (hc : D.pure.pures cs = true) [hp : Put env (some t) (.agg [.sl cs.length cs, d0]) env'] (hk : ∀ J' : Heap, ARun C Q k env' (F J') df) : ARun C Q k env H df := by
  obtain ⟨B, g1, g2, g3⟩ := g.prf
  subst g3; subst g2; subst g1
  have hp := hp.eq
  subst hp
  have htl : t < env.length := (List.getElem?_eq_some_iff.1 ht).1
  cases cs with
  | nil =>
    have := hk J
    refine ⟨fun L0 w0 μ0 H0 w μ a hs hv hd he b cs hrd => this.out L0 w0 μ0 H0 w μ a hs ?_ hd he b cs hrd⟩
    refine VRs_mk (by rw [VRs_length hv]; simp [envPut]) fun j d v h1 h2 => ?_
    simp only [envPut, List.getElem?_set] at h1
    by_cases e : t = j
    · subst e
      simp only [htl, if_true] at h1
      injection h1 with h1; subst h1
      obtain ⟨v', h3, h4⟩ := VRs_get hv ht
      rw [h2] at h3; injection h3 with h3; subst h3
      exact Fz.ok (H := []) hs (.agg (.cons .nil (.cons (.same _) .nil))) (by simp) h4
    · rw [if_neg e] at h1
      obtain ⟨v', h3, h4⟩ := VRs_get hv h1
      rw [h2] at h3; injection h3 with h3; subst h3; exact h4
  | cons c cs' =>
    have ho : (B ++ growT J e (c :: cs'))[B.length + J.length]? = some (some ⟨c :: cs', e, 1, true, none⟩) := by
      simp only [growT]
      rw [List.getElem?_append_right (by omega), Nat.add_sub_cancel_left, List.getElem?_append_right (by omega)]
      simp
    have hset : (B ++ growT J e (c :: cs')).set (B.length + J.length) (some ⟨c :: cs', e, 1, false, none⟩) = B ++ (J ++ [some ⟨c :: cs', e, 1, false, none⟩]) := by
      simp only [growT]
      rw [List.set_append_right _ _ (by omega), Nat.add_sub_cancel_left, List.set_append_right _ _ (by omega)]
      simp
    have hw : HWeak (B ++ growT J e (c :: cs')) (B ++ (J ++ [some ⟨c :: cs', e, 1, false, none⟩])) := by rw [← hset]; exact HWeak.one ho
    have := hk (J ++ [some ⟨c :: cs', e, 1, false, none⟩])
    refine ARun.weak hw ⟨fun L0 w0 μ0 H0 w μ a hs hv hd he b cs hrd => this.out L0 w0 μ0 H0 w μ a hs ?_ hd he b cs hrd⟩
    refine VRs_mk (by rw [VRs_length hv]; simp [envPut]) fun j d v h1 h2 => ?_
    simp only [envPut, List.getElem?_set] at h1
    by_cases e : t = j
    · subst e
      simp only [htl, if_true] at h1
      injection h1 with h1; subst h1
      obtain ⟨v', h3, h4⟩ := VRs_get hv ht
      rw [h2] at h3; injection h3 with h3; subst h3
      refine Fz.ok hs (.agg (.cons (.row ho hc) (.cons (.same _) .nil))) (fun i hi o ho' => ?_) h4
      simp only [List.append_nil, List.mem_cons, List.not_mem_nil, or_false] at hi
      subst hi
      rw [ho] at ho'
      injection ho' with ho'; injection ho' with ho'; subst ho'
      rw [← hset]
      rw [List.getElem?_set_self (List.getElem?_eq_some_iff.1 ho).1]
    · rw [if_neg e] at h1
      obtain ⟨v', h3, h4⟩ := VRs_get hv h1
      rw [h2] at h3; injection h3 with h3; subst h3; exact h4
theorem AOps.growEndA {l : List Oper} [g : GrowL H n J e cs F] (t : Nat) {d0 : D} (ht : env[t]? = some (.agg [growD (n + J.length) cs, d0])) (hc : D.pure.pures cs = true) [hp : Put env (some t) (.agg [.sl cs.length cs, d0]) env'] (hk : ∀ J' : Heap, AOps C Q ops l k env' (F J') df) : AOps C Q ops l k env H df :=
  ⟨fun i hi => ARun.growEndA t ht hc (fun J' => (hk J').out i hi)⟩
end
end Go.V
