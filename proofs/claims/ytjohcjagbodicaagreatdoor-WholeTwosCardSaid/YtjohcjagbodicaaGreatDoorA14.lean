/- A part of the proof: abstract values, rules for the steps of the program's form, and contracts of its functions, each proved; no condition. -/
import Derived.Test.YtjohcjagbodicaaGreatDoorA13
set_option linter.unusedVariables false
set_option linter.unusedSimpArgs false
set_option maxHeartbeats 8000000
set_option maxRecDepth 100000
set_option synthInstance.maxSize 100000
set_option synthInstance.maxHeartbeats 2000000
namespace Go.V
open Go.RowKit Go.Proofs
theorem w_Div_ok {a b k : Int} (fa : fitZ a) (fb : fitZ b) (h0 : b ≠ 0) (h1 : 1 ≤ k) (h4 : k ≤ 4) : ∃ q r, DvF k a b q r ∧ PC C Zdw [intD a, intD b, .int .i64 k] (fun o => o = .ret (.tup [intD q, intD r, .int .i64 0])) := by
  refine ⟨_, _, divW_facts (a := a) h0 k, (ZkX (decide (a < 0), lim a.natAbs) (decide (b < 0), lim b.natAbs) (U32_lim _) (U32_lim _) k).mono fun o ho => ?_⟩
  rw [ho, valI_int, valI_int, okI_of2 fa fb]
  unfold divR
  rw [cond_true, if_neg (fun e => by rcases kindF_none.1 e with h | h <;> omega), if_neg h0]
end Go.V
set_option maxHeartbeats 8000000
set_option maxRecDepth 100000
set_option synthInstance.maxSize 100000
set_option synthInstance.maxHeartbeats 2000000
namespace Go.V
open Go.RowKit Go.Proofs
end Go.V
set_option maxHeartbeats 4000000
set_option maxRecDepth 100000
set_option synthInstance.maxSize 100000
set_option synthInstance.maxHeartbeats 2000000
namespace Go.V
open Go.RowKit Go.Proofs
theorem numD_zero : numD 0 = .sl 0 [] := by rw [numD, lim_zero]; rfl
theorem lenN_zero_iff {n : Nat} : (((lim n).length : Int) == 0) = decide (n = 0) := by
  rw [Bool.eq_iff_iff, beq_iff_eq, decide_eq_true_iff]
  have := @ln_pos n
  constructor
  · intro h
    apply Classical.byContradiction
    intro hn
    have := this.2 hn
    omega
  · rintro rfl; rw [lim_zero]; rfl
def shlR (a n : Nat) : Nat × Int := if a = 0 then (0, 0) else if n ≤ 32768 ∧ (lim (a * 2 ^ n)).length ≤ 1024 then (a * 2 ^ n, 0) else (0, 2)
theorem ZlJ (a n : Nat) (ha : (lim a).length ≤ 1024) (hn : n ≤ 9223372036854775807) : PC C ZlW [numD a, .int .i64 (n : Int)] (fun o => o = .ret (.tup [numD (shlR a n).1, .int .i64 (shlR a n).2])) := by
  have pan : ∀ (e : Int) (env : List D), env[4]? = some .nilsl → env[5]? = some (.ptr 0 0) → shlR a n = (0, e) → (QFin C [.tmp 4, .cell 5 Zao] fun o x => o.pure = true ∧ o = .ret (.tup [numD (shlR a n).1, .int .i64 (shlR a n).2])) (.pan (failN e)) env [some ⟨[.int .i64 0], Zao, 1, true, none⟩] [.fn ZaB [.ptr 0 0]] := by
    intro e env h4 h5 hr
    refine DC.mono (dc0_caught_pan 0 e) ?_
    rintro _ _ ⟨rfl, rfl⟩
    exact ⟨_, _, _, .tmp h4 (ResR.cell1 h5 rfl rfl rfl rfl .nil), .cons .nil (.cons (.same _) .nil), rfl, by rw [hr, numD_zero]; rfl⟩
  refine PC.run ZhV Zk9 rfl Zla rfl (rs := [.tmp 4, .cell 5 28]) (by rw [Zlb]) (by simp only [List.length_cons, List.length_nil, Nat.reduceAdd, Nat.reduceSub, List.replicate_succ, List.replicate_zero, List.cons_append, List.nil_append]; exact rfl) ?_
  refine ARun.seq (ARun.region ?_)
  refine y_op rfl (Zaa rfl) ?_
  refine y_new rfl (Zag rfl rfl rfl rfl) ?_
  refine AOps.nil (ARun.seq (ARun.region ?_))
  refine Zc8 rfl rfl rfl ?_
  refine AOps.nil (ARun.seq (ARun.region ?_))
  refine y_op rfl (q_move rfl) ?_
  refine y_op rfl (Zan rfl rfl rfl rfl rfl rfl rfl rfl rfl rfl rfl (by decide) (by decide) rfl) ?_
  refine y_gop rfl (g_call rfl rfl (PC.gp (Zbv [lim a] 1 rfl))) (fun _ => ?_) (fun q hq => by obtain ⟨hq, rfl⟩ := hq; simp only [List.all_cons, List.all_nil, Bool.and_true, okB_lim ha] at hq; cases hq)
  refine AOps.nil (ARun.seq (ARun.region ?_))
  refine y_op rfl (q_move rfl) ?_
  refine y_op rfl (q_intB (b := true) rfl rfl rfl (decide_eq_true (by omega))) ?_
  refine y_gop rfl (g_call rfl rfl (PC.gp (Za5 _ 1))) (fun _ => ?_) (fun q hq => by obtain ⟨hq, rfl⟩ := hq; cases hq)
  refine AOps.nil (ARun.seq (ARun.seq (ARun.region ?_)))
  refine y_op rfl (q_move rfl) ?_
  refine y_op rfl (Zaf rfl rfl) ?_
  refine y_op rfl (q_intB (b := decide (a = 0)) rfl rfl rfl lenN_zero_iff) ?_
  refine AOps.nil ?_
  refine ARun.ite rfl (fun h0 => ?_) (fun h0 => ?_)
  · skip
    refine ARun.seq (ARun.region ?_)
    refine y_op rfl (Zaa rfl) ?_
    refine y_new rfl (Zah rfl rfl rfl rfl rfl rfl (Nat.le_of_ble_eq_true rfl) rfl) ?_
    refine AOps.nil ?_
    refine ARun.ret ?_
    refine DC.mono (dc0_caught_ret 0) ?_
    rintro _ _ ⟨rfl, rfl⟩
    exact ⟨_, _, _, .tmp rfl (ResR.cell1 rfl rfl rfl rfl rfl .nil), .cons .nil (.cons (.same _) .nil), rfl, by unfold shlR; rw [if_pos h0, numD_zero]; rfl⟩
  · skip
    refine ARun.skip (ARun.seq (ARun.region ?_))
    refine y_op rfl (q_move rfl) ?_
    refine y_op rfl (q_intB (b := decide (n ≤ 32768)) rfl rfl rfl (decide_eq_decide.2 (by omega))) ?_
    refine y_gop rfl (g_call rfl rfl (PC.gp (Za5 _ 2))) (fun hg => ?_) (fun q hq => by obtain ⟨hq, rfl⟩ := hq; exact pan 2 _ rfl rfl (by have hq : ¬ n ≤ 32768 := of_decide_eq_false hq; unfold shlR; rw [if_neg h0, if_neg (fun h => hq h.1)]))
    have hg : n ≤ 32768 := of_decide_eq_true hg
    refine AOps.nil (ARun.seq (ARun.region ?_))
    refine y_op rfl (q_move rfl) ?_
    refine y_op rfl (q_move rfl) ?_
    refine y_op rfl (q_call rfl rfl (Za8 a n (by omega) (by omega))) ?_
    refine y_gop rfl (g_call rfl rfl (PC.gp (Zbw (a * 2 ^ n)))) (fun hf => ?_) (fun q hq => by obtain ⟨hq, rfl⟩ := hq; exact pan 2 _ rfl rfl (by unfold shlR; rw [if_neg h0, if_neg (fun h => hq h.2)]))
    refine y_op rfl (Zaa rfl) ?_
    refine y_new rfl (Zah rfl rfl rfl rfl rfl rfl (Nat.le_of_ble_eq_true rfl) rfl) ?_
    refine AOps.nil ?_
    refine ARun.ret ?_
    refine DC.mono (dc0_caught_ret 0) ?_
    rintro _ _ ⟨rfl, rfl⟩
    exact ⟨_, _, _, .tmp rfl (ResR.cell1 rfl rfl rfl rfl rfl .nil), .cons (.same _) (.cons (.same _) .nil), rfl, by unfold shlR; rw [if_neg h0, if_pos ⟨hg, hf⟩]; rfl⟩
theorem Zh4 (a n : Nat) (ha : (lim a).length ≤ 1024) (hn : n ≤ 1000000) : PC C ZlX [numD a, .int .i64 (n : Int)] (fun o => o = .ret (.tup [numD (a / 2 ^ n), .int .i64 0])) := by
  have hl : (lim (a / 2 ^ n)).length ≤ 1024 := Nat.le_trans (ln_mono (Nat.div_le_self _ _)) ha
  refine PC.run ZhW Zlc rfl Zld rfl (rs := [.tmp 4, .cell 5 28]) (by rw [Zle]) (by simp only [List.length_cons, List.length_nil, Nat.reduceAdd, Nat.reduceSub, List.replicate_succ, List.replicate_zero, List.cons_append, List.nil_append]; exact rfl) ?_
  refine ARun.seq (ARun.region ?_)
  refine y_op rfl (Zaa rfl) ?_
  refine y_new rfl (Zag rfl rfl rfl rfl) ?_
  refine AOps.nil (ARun.seq (ARun.region ?_))
  refine Zc8 rfl rfl rfl ?_
  refine AOps.nil (ARun.seq (ARun.region ?_))
  refine y_op rfl (q_move rfl) ?_
  refine y_op rfl (Zan rfl rfl rfl rfl rfl rfl rfl rfl rfl rfl rfl (by decide) (by decide) rfl) ?_
  refine y_gop rfl (g_call rfl rfl (PC.gp (Zbv [lim a] 1 rfl))) (fun _ => ?_) (fun q hq => by obtain ⟨hq, rfl⟩ := hq; simp only [List.all_cons, List.all_nil, Bool.and_true, okB_lim ha] at hq; cases hq)
  refine AOps.nil (ARun.seq (ARun.region ?_))
  refine y_op rfl (q_move rfl) ?_
  refine y_op rfl (q_intB (b := true) rfl rfl rfl (decide_eq_true (by omega))) ?_
  refine y_gop rfl (g_call rfl rfl (PC.gp (Za5 _ 1))) (fun _ => ?_) (fun q hq => by obtain ⟨hq, rfl⟩ := hq; cases hq)
  refine AOps.nil (ARun.seq (ARun.region ?_))
  refine y_op rfl (q_move rfl) ?_
  refine y_op rfl (q_move rfl) ?_
  refine y_op rfl (q_call rfl rfl (ZeO a n (by omega) (by omega))) ?_
  refine y_gop rfl (g_call rfl rfl (PC.gp (Zbw (a / 2 ^ n)))) (fun hf => ?_) (fun q hq => by obtain ⟨hq, rfl⟩ := hq; exact absurd hl hq)
  refine y_op rfl (Zaa rfl) ?_
  refine y_new rfl (Zah rfl rfl rfl rfl rfl rfl (Nat.le_of_ble_eq_true rfl) rfl) ?_
  refine AOps.nil ?_
  refine ARun.ret ?_
  refine DC.mono (dc0_caught_ret 0) ?_
  rintro _ _ ⟨rfl, rfl⟩
  exact ⟨_, _, _, .tmp rfl (ResR.cell1 rfl rfl rfl rfl rfl .nil), .cons (.same _) (.cons (.same _) .nil), rfl, rfl⟩
end Go.V
/- m[k] of a map that is written no longer. -/
namespace Go.V
open Go.RowKit
section
variable {C : Ctx} {env : List D} {H H' : Heap} {dst : Option Tmp} {ty : TypeId} {pos : String} {aft : Array Edge} {gd : Option (Nat × Bool)} {x y z : Operand} {d : D} {T kt et : TypeId} {te : TE}
end
end Go.V
set_option maxHeartbeats 4000000
set_option maxRecDepth 100000
set_option synthInstance.maxSize 100000
set_option synthInstance.maxHeartbeats 2000000
namespace Go.V
open Go.RowKit Go.Proofs
abbrev P2 (n : Nat) : Int := ((2 ^ n : Nat) : Int)
theorem P2_pos (n : Nat) : 0 < P2 n := Int.natCast_pos.2 (Nat.two_pow_pos n)
noncomputable def shiftO (a n : Int) : Int ⊕ Int := if 0 ≤ n then (if a = 0 then .inl 0 else if n ≤ 32768 then fitO (a * P2 n.toNat) else .inr 2) else .inl (a / P2 (min (-n).toNat 33792))
theorem shlR_fit (a n : Nat) : (lim (shlR a n).1).length ≤ 1024 := by
  unfold shlR
  split
  · show (lim 0).length ≤ 1024; rw [lim_zero]; decide
  · split
    · rename_i h; exact h.2
    · show (lim 0).length ≤ 1024; rw [lim_zero]; decide
theorem natSub_ok {a b : Nat} (ha : (lim a).length ≤ 1024) (hb : (lim b).length ≤ 1024) (h : b ≤ a) : PC C ZjF [numD a, numD b] (fun o => o = .ret (.tup [numD (a - b), .int .i64 0])) :=
  (Zdc (lim a) (lim b) (U32_lim _) (U32_lim _)).mono fun o ho => by
    have : (lim (a - b)).length ≤ 1024 := Nat.le_trans (ln_mono (Nat.sub_le _ _)) ha
    rw [ho, resN_ok ha hb, val_lim, val_lim, if_pos h]
    simp only [if_pos this]
theorem natAdd_ok {a b : Nat} (ha : (lim a).length ≤ 1024) (hb : (lim b).length ≤ 1024) (h : (lim (a + b)).length ≤ 1024) : PC C ZjG [numD a, numD b] (fun o => o = .ret (.tup [numD (a + b), .int .i64 0])) :=
  (ZeS (lim a) (lim b) (U32_lim _) (U32_lim _)).mono fun o ho => by
    rw [ho, resN_ok ha hb, val_lim, val_lim]
    simp only [if_pos h]
theorem floor_neg {x p : Nat} (hp : 0 < p) (hx : 0 < x) : -(((x - 1) / p + 1 : Nat) : Int) = -(x : Int) / (p : Int) := by
  obtain ⟨y, rfl⟩ : ∃ y, x = y + 1 := ⟨x - 1, by omega⟩
  rw [Nat.add_sub_cancel]
  have h1 := Nat.div_add_mod y p
  have h2 := Nat.mod_lt y hp
  have h3 : -((y + 1 : Nat) : Int) = ((p : Int) - 1 - ((y % p : Nat) : Int)) + (p : Int) * (-((y / p + 1 : Nat) : Int)) := by
    have h4 : (p : Int) * ((y / p : Nat) : Int) + ((y % p : Nat) : Int) = (y : Int) := by rw [← Int.natCast_mul, ← Int.natCast_add, h1]
    rw [Int.natCast_add, Int.natCast_add, Int.mul_neg, Int.mul_add]
    omega
  rw [h3, Int.add_mul_ediv_left _ _ (by omega), Int.ediv_eq_zero_of_lt (by omega) (by omega), Int.zero_add]
theorem Zkf (a : Int) (ha : fitZ a) (n : Int) (h1 : -9223372036854775808 ≤ n) (h2 : n ≤ 9223372036854775807) : PC C ZcT [.sptr [.int .i64 n], capZ a] (fun o => o = outZ (shiftO a n)) := by
  have ha' : (lim a.natAbs).length ≤ 1024 := ha
  refine PC.run Zcm Zfw rfl Zfx rfl (rs := [.cell 2 25]) (by rw [Zfy]) (by simp only [List.length_cons, List.length_nil, Nat.reduceAdd, Nat.reduceSub, List.replicate_succ, List.replicate_zero, List.cons_append, List.nil_append]; exact rfl) ?_
  refine ARun.seq (ARun.region ?_)
  refine y_new rfl (Zag rfl rfl rfl rfl) ?_
  refine AOps.nil (ARun.seq (ARun.seq (ARun.region ?_)))
  refine y_op rfl (q_load rfl rfl rfl rfl) ?_
  refine y_op rfl (q_int rfl rfl rfl) ?_
  refine AOps.nil ?_
  refine ARun.ite rfl (fun hn => ?_) (fun hn => ?_)
  · skip
    obtain ⟨m, rfl⟩ : ∃ m : Nat, n = (m : Int) := ⟨n.toNat, by omega⟩
    have hres : ∀ e : Int, (shlR a.natAbs m).2 = e → (e = 0 → shiftO a m = .inl (sgnd (decide (a < 0)) (shlR a.natAbs m).1) ∧ fitZ (sgnd (decide (a < 0)) (shlR a.natAbs m).1)) ∧ (e ≠ 0 → e = 2 ∧ shiftO a m = .inr 2) := by
      rintro e rfl
      unfold shiftO shlR
      rw [if_pos (show (0 : Int) ≤ (m : Int) by omega)]
      by_cases h0 : a = 0
      · subst h0
        rw [if_pos rfl, show (0 : Int).natAbs = 0 from rfl, if_pos rfl]
        exact ⟨fun _ => ⟨rfl, by show (lim 0).length ≤ 1024; rw [lim_zero]; decide⟩, fun h => absurd rfl h⟩
      · rw [if_neg h0, if_neg (by omega)]
        have e1 : (a * P2 m).natAbs = a.natAbs * 2 ^ m := by rw [Int.natAbs_mul, Int.natAbs_natCast]
        have e2 : sgnd (decide (a < 0)) (a.natAbs * 2 ^ m) = a * P2 m := by
          unfold sgnd
          by_cases h : a < 0
          · rw [decide_eq_true h, cond_true, Int.natCast_mul, ← Int.neg_mul, show -(a.natAbs : Int) = a by omega]
          · rw [decide_eq_false h, cond_false, Int.natCast_mul, show (a.natAbs : Int) = a by omega]
        by_cases h3 : m ≤ 32768
        · rw [if_pos (show (m : Int) ≤ 32768 by omega)]
          by_cases h4 : (lim (a.natAbs * 2 ^ m)).length ≤ 1024
          · have h5 : fitZ (a * P2 m) := by unfold fitZ; rw [e1]; exact h4
            rw [if_pos ⟨h3, h4⟩]
            exact ⟨fun _ => ⟨by dsimp only; rw [e2]; exact fitO_t h5, by dsimp only; rw [e2]; exact h5⟩, fun h => absurd rfl h⟩
          · have h5 : ¬ fitZ (a * P2 m) := by unfold fitZ; rw [e1]; exact h4
            rw [if_neg (fun h => h4 h.2)]
            exact ⟨fun h => (by cases h), fun _ => ⟨rfl, fitO_f h5⟩⟩
        · rw [if_neg (show ¬ (m : Int) ≤ 32768 by omega), if_neg (fun h => h3 h.1)]
          exact ⟨fun h => (by cases h), fun _ => ⟨rfl, rfl⟩⟩
    obtain ⟨hr1, hr2⟩ := hres _ rfl
    refine ARun.seq ?_
    refine ARun.drawnP 11 (fun q => (shlR a.natAbs m).2 ≠ 0 ∧ q = failW (shlR a.natAbs m).2) mixC rfl rfl (by kernel_rfl) (fun _ _ h => by obtain ⟨h1, rfl⟩ := h; obtain ⟨h3, h4⟩ := hr2 h1; exact ⟨_, _, .same _, rfl, by rw [h3, h4]; rfl⟩) ?_
    refine .op rfl (q_fldS rfl rfl rfl (by decide)) ?_
    refine .op rfl (q_load rfl rfl rfl rfl) ?_
    refine .op rfl (q_fldS rfl rfl rfl (by decide)) ?_
    refine .op rfl (q_load rfl rfl rfl rfl) ?_
    refine .op rfl (q_load rfl rfl rfl rfl) ?_
    refine .op rfl (q_call rfl rfl (ZlJ a.natAbs m ha' (by omega))) ?_
    refine .op rfl (Zab rfl rfl) ?_
    refine .op rfl (Zab rfl rfl) ?_
    refine .opP rfl (g_call rfl rfl ((Zg3 (shlR a.natAbs m).1 (shlR a.natAbs m).2).mono fun o ho => ho.imp id (fun ⟨x, y⟩ => ⟨_, ⟨x, rfl⟩, y⟩))) ?_
    refine .op rfl (q_call rfl rfl (Zaj (decide (a < 0)) (shlR a.natAbs m).1)) ?_
    refine .op rfl (q_call rfl rfl (Zda _ (by rw [sgnd_abs]; have := shlR_fit a.natAbs m; omega))) ?_
    refine .nil (fun hG => ?_)
    refine y_new rfl (Zac rfl rfl rfl rfl rfl rfl rfl rfl (Nat.le_of_ble_eq_true rfl) rfl) ?_
    refine AOps.nil ?_
    refine ARun.ret ?_
    refine ⟨_, _, _, ResR.cellA rfl rfl rfl rfl rfl rfl .nil, .cons (.same _) .nil, rfl, ?_⟩
    rw [(hr1 hG.2).1]; rfl
  · skip
    obtain ⟨kk, hkk⟩ : ∃ kk, kk = min (-n).toNat 33792 := ⟨_, rfl⟩
    have hO : shiftO a n = .inl (a / P2 kk) := by unfold shiftO; rw [if_neg (by omega), hkk]
    rw [hO]
    refine ARun.skip (ARun.seq (ARun.region ?_))
    refine y_op rfl (q_load rfl rfl rfl rfl) ?_
    refine y_op rfl (q_maxR (r := -(kk : Int)) rfl rfl (by omega)) ?_
    refine y_op rfl (q_neg rfl (show _ = (kk : Int) by rw [IntWalk.i64_in _ (by omega)]; omega)) ?_
    refine y_op rfl (Zaa rfl) ?_
    refine AOps.nil (ARun.seq (ARun.seq (ARun.region ?_)))
    refine y_op rfl (q_fldS rfl rfl rfl (by decide)) ?_
    refine y_op rfl (q_load rfl rfl rfl rfl) ?_
    refine y_op rfl (q_not rfl) ?_
    refine AOps.nil ?_
    refine ARun.cond rfl (fun hs => ?_) (fun hs => ?_)
    · skip
      have hs : ¬ a < 0 := by simpa using hs
      have hv : sgnd false (a.natAbs / 2 ^ kk) = a / P2 kk := by
        show ((a.natAbs / 2 ^ kk : Nat) : Int) = _
        rw [Int.natCast_ediv, show (a.natAbs : Int) = a by omega]
      refine ARun.seq (ARun.region ?_)
      refine y_op rfl (q_fldS rfl rfl rfl (by decide)) ?_
      refine y_op rfl (q_load rfl rfl rfl rfl) ?_
      refine y_op rfl (q_move rfl) ?_
      refine y_op rfl (q_call rfl rfl (Zh4 a.natAbs kk ha' (by omega))) ?_
      refine y_op rfl (Zab rfl rfl) ?_
      refine y_op rfl (Zab rfl rfl) ?_
      refine y_op rfl (q_call rfl rfl (Zbq (a.natAbs / 2 ^ kk))) ?_
      refine y_op rfl (q_call rfl rfl (Zaj false (a.natAbs / 2 ^ kk))) ?_
      refine y_op rfl (q_call rfl rfl (Zda _ (by rw [sgnd_abs]; have := ln_mono (Nat.div_le_self a.natAbs (2 ^ kk)); omega))) ?_
      refine y_new rfl (Zac rfl rfl rfl rfl rfl rfl rfl rfl (Nat.le_of_ble_eq_true rfl) rfl) ?_
      refine AOps.nil ?_
      refine ARun.ret ?_
      refine ⟨_, _, _, ResR.cellA rfl rfl rfl rfl rfl rfl .nil, .cons (.same _) .nil, rfl, ?_⟩
      rw [hv]; rfl
    · skip
      have hs : a < 0 := by simpa using hs
      have hv : sgnd true ((a.natAbs - 1) / 2 ^ kk + 1) = a / P2 kk := by
        have h := floor_neg (x := a.natAbs) (p := 2 ^ kk) (Nat.two_pow_pos kk) (by omega)
        show -(((a.natAbs - 1) / 2 ^ kk + 1 : Nat) : Int) = _
        rw [h, show -(a.natAbs : Int) = a by omega]
      have hq : (a.natAbs - 1) / 2 ^ kk + 1 ≤ a.natAbs := by have := Nat.div_le_self (a.natAbs - 1) (2 ^ kk); omega
      have hl1 : (lim (a.natAbs - 1)).length ≤ 1024 := Nat.le_trans (ln_mono (Nat.sub_le _ _)) ha'
      have hl2 : (lim ((a.natAbs - 1) / 2 ^ kk)).length ≤ 1024 := Nat.le_trans (ln_mono (Nat.div_le_self _ _)) hl1
      have hl3 : (lim ((a.natAbs - 1) / 2 ^ kk + 1)).length ≤ 1024 := Nat.le_trans (ln_mono hq) ha'
      have hone : (lim 1).length ≤ 1024 := by rw [lim_one]; decide
      have hsub := natSub_ok ha' hone (show 1 ≤ a.natAbs by omega)
      rw [← numD_one] at hsub
      have hadd := natAdd_ok hl2 hone hl3
      rw [← numD_one] at hadd
      refine ARun.skip (ARun.seq (ARun.region ?_))
      refine y_op rfl (q_fldS rfl rfl rfl (by decide)) ?_
      refine y_op rfl (q_load rfl rfl rfl rfl) ?_
      refine y_op rfl (Zan rfl rfl rfl rfl rfl rfl rfl rfl rfl rfl rfl (by decide) (by decide) rfl) ?_
      refine y_op rfl (q_call rfl rfl (hsub)) ?_
      refine y_op rfl (Zab rfl rfl) ?_
      refine y_op rfl (Zab rfl rfl) ?_
      refine y_op rfl (q_call rfl rfl (Zbq (a.natAbs - 1))) ?_
      refine y_op rfl (q_move rfl) ?_
      refine y_op rfl (q_call rfl rfl (Zh4 (a.natAbs - 1) kk hl1 (by omega))) ?_
      refine y_op rfl (Zab rfl rfl) ?_
      refine y_op rfl (Zab rfl rfl) ?_
      refine y_op rfl (q_call rfl rfl (Zbq ((a.natAbs - 1) / 2 ^ kk))) ?_
      refine y_op rfl (Zaa rfl) ?_
      refine AOps.nil (ARun.seq (ARun.region ?_))
      refine y_op rfl (q_move rfl) ?_
      refine y_op rfl (Zan rfl rfl rfl rfl rfl rfl rfl rfl rfl rfl rfl (by decide) (by decide) rfl) ?_
      refine y_op rfl (q_call rfl rfl (hadd)) ?_
      refine y_op rfl (Zab rfl rfl) ?_
      refine y_op rfl (Zab rfl rfl) ?_
      refine y_op rfl (q_call rfl rfl (Zbq ((a.natAbs - 1) / 2 ^ kk + 1))) ?_
      refine y_op rfl (q_call rfl rfl (Zaj true ((a.natAbs - 1) / 2 ^ kk + 1))) ?_
      refine y_op rfl (q_call rfl rfl (Zda _ (by rw [sgnd_abs]; omega))) ?_
      refine y_new rfl (Zac rfl rfl rfl rfl rfl rfl rfl rfl (Nat.le_of_ble_eq_true rfl) rfl) ?_
      refine AOps.nil ?_
      refine ARun.ret ?_
      refine ⟨_, _, _, ResR.cellA rfl rfl rfl rfl rfl rfl .nil, .cons (.same _) .nil, rfl, ?_⟩
      rw [hv]; rfl
theorem ZlK (d : Bool × List Nat) (hd : U32 d.2) (n : Int) (h1 : -9223372036854775808 ≤ n) (h2 : n ≤ 9223372036854775807) : PC C ZdP [intA d.1 d.2, .int .i64 n] (fun o => o = .ret (.tup [intD (resZ ([d].all okI) (shiftO (valI d) n)).1, .int .i64 (resZ ([d].all okI) (shiftO (valI d) n)).2])) := by
  refine PC.run Zdl Zhk rfl Zhl rfl (rs := [.cell 4 25, .tmp 5]) (by rw [Zhm]) (by simp only [List.length_cons, List.length_nil, Nat.reduceAdd, Nat.reduceSub, List.replicate_succ, List.replicate_zero, List.cons_append, List.nil_append]; exact rfl) ?_
  refine ARun.seq (ARun.region ?_)
  refine y_op rfl (q_boxF rfl rfl rfl rfl) ?_
  refine y_op rfl (q_boxF rfl rfl rfl rfl) ?_
  refine y_new rfl (Zag rfl rfl rfl rfl) ?_
  refine y_op rfl (Zaa rfl) ?_
  refine AOps.nil (ARun.seq (ARun.region ?_))
  refine y_op rfl (Zcf rfl) ?_
  refine y_op rfl (Zad rfl rfl rfl rfl rfl) ?_
  refine y_op rfl (Zan rfl rfl rfl rfl rfl rfl rfl rfl rfl rfl rfl (by decide) (by decide) rfl) ?_
  refine y_op rfl (q_call rfl rfl (Zby [d] 1 rfl ZcT [.sptr [.int .i64 n], .sptr [.bool d.1, sln .u32 d.2]] rfl (shiftO (valI d) n) (fun h => by obtain ⟨x, rfl, f1⟩ := okI_int hd (by simpa using h); rw [valI_int]; exact Zkf x f1 n h1 h2))) ?_
  refine y_op rfl (Zab rfl rfl) ?_
  refine y_op rfl (Zab rfl rfl) ?_
  refine y_new rfl (Zac rfl rfl rfl rfl rfl rfl rfl rfl (Nat.le_of_ble_eq_true rfl) rfl) ?_
  refine y_op rfl (Zaa rfl) ?_
  refine AOps.nil ?_
  refine ARun.ret ?_
  refine ⟨_, _, _, ResR.cellA rfl rfl rfl rfl rfl rfl (.tmp rfl .nil), .cons (.same _) (.cons (.same _) .nil), rfl, ?_⟩
  rfl
end Go.V
namespace Go.V
def bo (op : Int) (x y : Nat) : Nat := if op = 1 then x &&& y else if op = 2 then x ||| y else x ^^^ y
def sb (op : Int) (x y : Bool) : Bool := if op = 1 then x && y else if op = 2 then x || y else Bool.xor x y
theorem bo_mod (op : Int) (x y k : Nat) : bo op x y % 2 ^ k = bo op (x % 2 ^ k) (y % 2 ^ k) := by
  unfold bo; split
  · exact Nat.and_mod_two_pow
  · split
    · exact Nat.or_mod_two_pow
    · exact Nat.xor_mod_two_pow
theorem bo_div (op : Int) (x y k : Nat) : bo op x y / 2 ^ k = bo op (x / 2 ^ k) (y / 2 ^ k) := by
  unfold bo; split
  · exact Nat.and_div_two_pow
  · split
    · exact Nat.or_div_two_pow
    · exact Nat.xor_div_two_pow
theorem bo_lt {op : Int} {x y k : Nat} (hx : x < 2 ^ k) (hy : y < 2 ^ k) : bo op x y < 2 ^ k := by
  unfold bo; split
  · exact Nat.and_lt_two_pow _ hy
  · split
    · exact Nat.or_lt_two_pow hx hy
    · exact Nat.xor_lt_two_pow hx hy
theorem bo_dig (op : Int) (x y i : Nat) : dig (bo op x y) i = bo op (dig x i) (dig y i) := by
  unfold dig
  rw [B_pow, bo_div, show B = 2 ^ 32 from rfl, bo_mod]
theorem bo_add {op : Int} {x y u v n : Nat} (hx : x < B ^ n) (hy : y < B ^ n) : bo op (x + B ^ n * u) (y + B ^ n * v) = bo op x y + B ^ n * bo op u v := by
  rw [B_pow] at *
  have h1 := Nat.mod_add_div (bo op (x + 2 ^ (32 * n) * u) (y + 2 ^ (32 * n) * v)) (2 ^ (32 * n))
  rw [bo_mod, bo_div, Nat.add_mul_mod_self_left, Nat.add_mul_mod_self_left, Nat.mod_eq_of_lt hx, Nat.mod_eq_of_lt hy, Nat.add_mul_div_left _ _ (Nat.two_pow_pos _), Nat.add_mul_div_left _ _ (Nat.two_pow_pos _), Nat.div_eq_of_lt hx, Nat.div_eq_of_lt hy, Nat.zero_add, Nat.zero_add] at h1
  exact h1.symm
def rsN (b : Bool) : Nat := bif b then 4294967295 else 0
theorem rsN_bo (op : Int) (a b : Bool) : bo op (rsN a) (rsN b) = rsN (sb op a b) := by
  unfold bo sb
  split
  · cases a <;> cases b <;> rfl
  · split
    · cases a <;> cases b <;> rfl
    · cases a <;> cases b <;> rfl
def tw (n : Nat) (a : Int) : Nat := (a % ((B ^ n : Nat) : Int)).toNat
theorem Bn_pos (n : Nat) : 0 < B ^ n := Nat.pow_pos B_pos
theorem tw_lt (n : Nat) (a : Int) : tw n a < B ^ n := by
  have h := Bn_pos n
  have h1 := Int.emod_nonneg a (show ((B ^ n : Nat) : Int) ≠ 0 by omega)
  have h2 := Int.emod_lt_of_pos a (show 0 < ((B ^ n : Nat) : Int) by omega)
  unfold tw; omega
theorem tw_cast (n : Nat) (a : Int) : ((tw n a : Nat) : Int) = a % ((B ^ n : Nat) : Int) := by
  have h := Bn_pos n
  have h1 := Int.emod_nonneg a (show ((B ^ n : Nat) : Int) ≠ 0 by omega)
  unfold tw; omega
def inB (n : Nat) (a : Int) : Prop := -((B ^ n : Nat) : Int) ≤ a ∧ a < ((B ^ n : Nat) : Int)
theorem inB.of {a : Int} {n : Nat} (h : (lim a.natAbs).length ≤ n) : inB n a := by
  have := ln_le_iff.1 h
  unfold inB; omega
theorem inB.tw {n : Nat} {a : Int} (h : inB n a) : ((tw n a : Nat) : Int) = a + (bif decide (a < 0) then ((B ^ n : Nat) : Int) else 0) := by
  rw [tw_cast]
  obtain ⟨h1, h2⟩ := h
  by_cases h0 : a < 0
  · rw [decide_eq_true h0, cond_true, ← Int.add_emod_right, Int.emod_eq_of_lt (by omega) (by omega)]
  · rw [decide_eq_false h0, cond_false, Int.emod_eq_of_lt (by omega) h2, Int.add_zero]
theorem inB.mono {n m : Nat} {a : Int} (h : inB n a) (hm : n ≤ m) : inB m a := by
  have := Nat.pow_le_pow_right B_pos hm
  unfold inB at *; omega
theorem inB.succ {n : Nat} {a : Int} (h : inB n a) : Go.V.tw (n + 1) a = Go.V.tw n a + B ^ n * rsN (decide (a < 0)) := by
  have h1 := h.tw
  have h2 := (h.mono (show n ≤ n + 1 by omega)).tw
  have h3 : B ^ (n + 1) = B ^ n * 4294967296 := Nat.pow_succ ..
  by_cases h0 : a < 0
  · rw [decide_eq_true h0, cond_true] at *
    show _ = _ + _ * 4294967295
    omega
  · rw [decide_eq_false h0, cond_false] at *
    show _ = _ + _ * 0
    omega
def bitN (op : Int) (n : Nat) (a b : Int) : Int := ((bo op (tw n a) (tw n b) : Nat) : Int) - (bif sb op (decide (a < 0)) (decide (b < 0)) then ((B ^ n : Nat) : Int) else 0)
theorem bitN_succ {op : Int} {n : Nat} {a b : Int} (ha : inB n a) (hb : inB n b) : bitN op (n + 1) a b = bitN op n a b := by
  unfold bitN
  rw [ha.succ, hb.succ, bo_add (tw_lt n a) (tw_lt n b), rsN_bo]
  have h3 : B ^ (n + 1) = B ^ n * 4294967296 := Nat.pow_succ ..
  cases sb op (decide (a < 0)) (decide (b < 0))
  · show ((_ + _ * 0 : Nat) : Int) - 0 = _ - 0
    omega
  · show ((_ + _ * 4294967295 : Nat) : Int) - ((B ^ (n + 1) : Nat) : Int) = _ - ((B ^ n : Nat) : Int)
    omega
theorem bitN_add {op : Int} {n : Nat} {a b : Int} (ha : inB n a) (hb : inB n b) : ∀ k, bitN op (n + k) a b = bitN op n a b
  | 0 => rfl
  | k + 1 => by rw [← Nat.add_assoc, bitN_succ (ha.mono (Nat.le_add_right ..)) (hb.mono (Nat.le_add_right ..)), bitN_add ha hb k]
def lnZ' (a : Int) : Nat := (lim a.natAbs).length
def bitZ (op : Int) (a b : Int) : Int := bitN op (max (lnZ' a) (lnZ' b)) a b
theorem bitZ_eq {op : Int} {n : Nat} {a b : Int} (h : max (lnZ' a) (lnZ' b) ≤ n) : bitN op n a b = bitZ op a b := by
  obtain ⟨k, rfl⟩ : ∃ k, n = max (lnZ' a) (lnZ' b) + k := ⟨n - max (lnZ' a) (lnZ' b), by omega⟩
  exact bitN_add (inB.of (Nat.le_max_left ..)) (inB.of (Nat.le_max_right ..)) k
theorem bo_ltB {op : Int} {x y n : Nat} (hx : x < B ^ n) (hy : y < B ^ n) : bo op x y < B ^ n := by
  rw [B_pow] at *; exact bo_lt hx hy
theorem bitN_in {op : Int} {n : Nat} {a b : Int} : inB n (bitN op n a b) := by
  have h := bo_ltB (op := op) (tw_lt n a) (tw_lt n b)
  unfold bitN inB
  cases sb op (decide (a < 0)) (decide (b < 0)) <;> simp only [cond_true, cond_false] <;> omega
theorem bitN_neg {op : Int} {n : Nat} {a b : Int} : decide (bitN op n a b < 0) = sb op (decide (a < 0)) (decide (b < 0)) := by
  have h := bo_ltB (op := op) (tw_lt n a) (tw_lt n b)
  unfold bitN
  cases sb op (decide (a < 0)) (decide (b < 0)) <;> simp only [cond_true, cond_false]
  · exact decide_eq_false (by omega)
  · exact decide_eq_true (by omega)
theorem bitN_tw {op : Int} {n : Nat} {a b : Int} : tw n (bitN op n a b) = bo op (tw n a) (tw n b) := by
  have h := (bitN_in (op := op) (n := n) (a := a) (b := b)).tw
  rw [bitN_neg] at h
  unfold bitN at h
  have : ∀ c : Int, c = ((bo op (tw n a) (tw n b) : Nat) : Int) → c.toNat = bo op (tw n a) (tw n b) := fun c e => by omega
  have h2 := this ((tw n (bitN op n a b) : Nat) : Int) (by unfold bitN; omega)
  omega
def wl (a : Int) : List Nat := if a < 0 then (lim (a.natAbs - 1)).map (fun x => 4294967295 - x) else lim a.natAbs
theorem wl_len (a : Int) : (wl a).length ≤ lnZ' a := by
  unfold wl lnZ'; split
  · rw [List.length_map]; exact ln_mono (Nat.sub_le _ _)
  · exact Nat.le_refl _
theorem U32_inv {xs : List Nat} : U32 (xs.map (fun x => 4294967295 - x)) := fun y hy => by
  obtain ⟨x, _, rfl⟩ := List.mem_map.1 hy
  omega
theorem U32_wl (a : Int) : U32 (wl a) := by
  unfold wl; split
  · exact U32_inv
  · exact U32_lim _
theorem val_inv : ∀ {xs : List Nat}, U32 xs → val (xs.map (fun x => 4294967295 - x)) + val xs + 1 = B ^ xs.length
  | [], _ => rfl
  | x :: xs, h => by
    have ih := val_inv h.tail
    have h1 := h.head
    simp only [List.map_cons, val, List.length_cons, Nat.pow_succ]
    have : B * (val (xs.map (fun x => 4294967295 - x)) + val xs + 1) = B * B ^ xs.length := congrArg (B * ·) ih
    rw [Nat.mul_comm (B ^ xs.length) B, ← this]
    simp only [Nat.mul_add, B_eq] at *
    omega
theorem wl_val (a : Int) : ((val (wl a) : Nat) : Int) = a + (bif decide (a < 0) then ((B ^ (wl a).length : Nat) : Int) else 0) := by
  unfold wl
  by_cases h : a < 0
  · rw [if_pos h, decide_eq_true h, cond_true, List.length_map]
    have := val_inv (U32_lim (a.natAbs - 1))
    rw [val_lim] at this
    omega
  · rw [if_neg h, decide_eq_false h, cond_false, val_lim]; omega
def elW (a : Int) (i : Nat) : Nat := if i < (wl a).length then (wl a).getD i 0 else rsN (decide (a < 0))
theorem wl_tw (a : Int) : val (wl a) = tw (wl a).length a := by
  have h := val_lt (U32_wl a)
  have h1 := wl_val a
  have h2 : inB (wl a).length a := by
    unfold inB
    cases h0 : decide (a < 0) <;> rw [h0] at h1 <;> simp only [cond_true, cond_false] at h1
    · have := of_decide_eq_false h0; omega
    · have := of_decide_eq_true h0; omega
  have h3 := h2.tw
  omega
theorem tw_mod {n m : Nat} (a : Int) (h : n ≤ m) : tw m a % B ^ n = tw n a := by
  have h1 : ((tw m a % B ^ n : Nat) : Int) = ((tw n a : Nat) : Int) := by
    rw [Int.natCast_emod, tw_cast, tw_cast]
    apply Int.emod_emod_of_dvd
    obtain ⟨k, rfl⟩ := Nat.exists_eq_add_of_le h
    exact ⟨((B ^ k : Nat) : Int), by rw [Nat.pow_add, Int.natCast_mul]⟩
  omega
theorem dig_mod {x n i : Nat} (h : i < n) : dig (x % B ^ n) i = dig x i := by
  have h1 : x = x % B ^ n + B ^ n * (x / B ^ n) := (Nat.mod_add_div _ _).symm
  obtain ⟨k, rfl⟩ : ∃ k, n = i + 1 + k := ⟨n - i - 1, by omega⟩
  unfold dig
  conv => rhs; rw [h1]
  rw [show B ^ (i + 1 + k) * (x / B ^ (i + 1 + k)) = B ^ i * (B * (B ^ k * (x / B ^ (i + 1 + k)))) by rw [Nat.pow_add, Nat.pow_succ]; simp only [Nat.mul_assoc]]
  rw [Nat.add_mul_div_left _ _ (Bn_pos i), Nat.add_mul_mod_self_left]
theorem elW_eq (a : Int) {i n : Nat} (h : i < n) : elW a i = dig (tw n a) i := by
  unfold elW
  split
  · rename_i hi
    rw [dig_val (U32_wl a), wl_tw a]
    rw [← dig_mod (n := min n (wl a).length) (x := tw (wl a).length a) (by omega), ← dig_mod (n := min n (wl a).length) (x := tw n a) (by omega), tw_mod a (Nat.min_le_left ..), tw_mod a (Nat.min_le_right ..)]
  · rename_i hi
    have hin : inB i a := by
      have h := val_lt (U32_wl a)
      have h1 := wl_val a
      have hp := Nat.pow_le_pow_right B_pos (show (wl a).length ≤ i by omega)
      unfold inB
      cases h0 : decide (a < 0) <;> rw [h0] at h1 <;> simp only [cond_true, cond_false] at h1
      · have := of_decide_eq_false h0; omega
      · have := of_decide_eq_true h0; omega
    rw [← dig_mod (n := i + 1) (x := tw n a) (by omega), tw_mod a (by omega), hin.succ]
    unfold dig
    rw [Nat.add_mul_div_left _ _ (Bn_pos i), Nat.div_eq_of_lt (tw_lt i a), Nat.zero_add]
    cases decide (a < 0) <;> rfl
theorem val_digs (x : Nat) : ∀ n, val ((List.range n).map (dig x)) = x % B ^ n
  | 0 => by simp [val, Nat.mod_one]
  | n + 1 => by
    rw [List.range_succ, List.map_append, val_append, val_digs x n, mod_succ, List.length_map, List.length_range]
    simp [val]
def boL (op : Int) (a b : Int) (n : Nat) : List Nat := (List.range n).map (fun i => bo op (elW a i) (elW b i))
theorem boL_len {op a b : Int} {n : Nat} : (boL op a b n).length = n := by simp [boL]
theorem boL_eq (op : Int) (a b : Int) (n : Nat) : boL op a b n = (List.range n).map (dig (bo op (tw n a) (tw n b))) := by
  unfold boL
  apply List.map_congr_left
  intro i hi
  have hi : i < n := by simpa using hi
  rw [elW_eq a hi, elW_eq b hi, bo_dig]
theorem boL_val (op : Int) (a b : Int) (n : Nat) : val (boL op a b n) = bo op (tw n a) (tw n b) := by
  rw [boL_eq, val_digs, Nat.mod_eq_of_lt (bo_ltB (tw_lt n a) (tw_lt n b))]
theorem U32_boL (op : Int) (a b : Int) (n : Nat) : U32 (boL op a b n) := by
  rw [boL_eq]
  intro x hx
  obtain ⟨i, _, rfl⟩ := List.mem_map.1 hx
  exact dig_lt _ _
theorem boL_snoc (op : Int) (a b : Int) (n : Nat) : boL op a b (n + 1) = boL op a b n ++ [bo op (elW a n) (elW b n)] := by
  unfold boL; rw [List.range_succ, List.map_append]; rfl
def ivZ (l : List Nat) (r : Bool) : Int := ((val l : Nat) : Int) - (bif r then ((B ^ l.length : Nat) : Int) else 0)
theorem ivZ_boL (op : Int) (a b : Int) (n : Nat) : ivZ (boL op a b n) (sb op (decide (a < 0)) (decide (b < 0))) = bitN op n a b := by
  unfold ivZ bitN; rw [boL_val, boL_len]
theorem wl_big (a : Int) (h : inB (wl a).length a → False) : False := by
  apply h
  have h := val_lt (U32_wl a)
  have h1 := wl_val a
  unfold inB
  cases h0 : decide (a < 0) <;> rw [h0] at h1 <;> simp only [cond_true, cond_false] at h1
  · have := of_decide_eq_false h0; omega
  · have := of_decide_eq_true h0; omega
theorem inB_wl (a : Int) : inB (wl a).length a := Classical.byContradiction fun h => wl_big a h
theorem bitN_wl {op : Int} {n : Nat} {a b : Int} (h : max (wl a).length (wl b).length = n) : bitN op n a b = bitZ op a b := by
  rw [← bitZ_eq (n := n + max (lnZ' a) (lnZ' b)) (by omega), bitN_add ((inB_wl a).mono (by omega)) ((inB_wl b).mono (by omega))]
end Go.V
set_option maxHeartbeats 4000000
set_option maxRecDepth 100000
set_option synthInstance.maxSize 100000
set_option synthInstance.maxHeartbeats 2000000
namespace Go.V
open Go.RowKit Go.Proofs
theorem Fz.grow {B J : Heap} {e : TypeId} {cs : List D} {m : Nat} (hm : m = B.length + J.length) (hp : D.pure.pures cs = true) : ∃ ids, Fz (B ++ growT J e cs) (growD m cs) (.sl cs.length cs) ids := by
  subst hm
  cases cs with
  | nil => exact ⟨_, .nil⟩
  | cons c cs =>
    refine ⟨_, Fz.row (o := ⟨c :: cs, e, 1, true, none⟩) ?_ hp⟩
    show (B ++ (J ++ [_]))[B.length + J.length]? = _
    rw [List.getElem?_append_right (by omega), Nat.add_sub_cancel_left, List.getElem?_append_right (Nat.le_refl _), Nat.sub_self]
    rfl
theorem ofInt_u32 {x : Nat} (h : x < 4294967296) : (BitVec.ofInt IntKind.u32.bits (x : Int)).toNat = x := by
  show (BitVec.ofInt 32 (x : Int)).toNat = x
  rw [BitVec.ofInt_natCast, BitVec.toNat_ofNat]
  exact Nat.mod_eq_of_lt h
theorem wrap_u32N {x : Nat} (h : x < 4294967296) : IntKind.u32.wrap (x : Int) = (x : Int) := by
  rw [IntKind.wrap_u32]; omega
theorem compl_u32 {x : Nat} (h : x < 4294967296) : IntKind.u32.wrap (BitVec.ofInt IntKind.u32.bits (if IntKind.u32.signed then -1 else IntKind.u32.max) ^^^ BitVec.ofInt IntKind.u32.bits (x : Int)).toNat = ((4294967295 - x : Nat) : Int) := by
  have h1 : BitVec.ofInt IntKind.u32.bits (if IntKind.u32.signed then -1 else IntKind.u32.max) = BitVec.allOnes 32 := by show BitVec.ofInt 32 4294967295 = _; decide
  rw [h1]
  show IntKind.u32.wrap (BitVec.allOnes 32 ^^^ BitVec.ofInt 32 (x : Int)).toNat = _
  rw [BitVec.xor_comm, BitVec.xor_allOnes, BitVec.toNat_not, show (BitVec.ofInt 32 (x : Int)).toNat = x from ofInt_u32 h]
  exact wrap_u32N (x := 2 ^ 32 - 1 - x) (by omega)
theorem land_u32 {x y : Nat} (hx : x < 4294967296) (hy : y < 4294967296) : IntKind.u32.wrap (BitVec.ofInt IntKind.u32.bits (x : Int) &&& BitVec.ofInt IntKind.u32.bits (y : Int)).toNat = ((x &&& y : Nat) : Int) := by
  rw [BitVec.toNat_and, ofInt_u32 hx, ofInt_u32 hy]; exact wrap_u32N (Nat.and_lt_two_pow (n := 32) _ hy)
theorem lor_u32 {x y : Nat} (hx : x < 4294967296) (hy : y < 4294967296) : IntKind.u32.wrap (BitVec.ofInt IntKind.u32.bits (x : Int) ||| BitVec.ofInt IntKind.u32.bits (y : Int)).toNat = ((x ||| y : Nat) : Int) := by
  rw [BitVec.toNat_or, ofInt_u32 hx, ofInt_u32 hy]; exact wrap_u32N (Nat.or_lt_two_pow (n := 32) hx hy)
theorem lxor_u32 {x y : Nat} (hx : x < 4294967296) (hy : y < 4294967296) : IntKind.u32.wrap (BitVec.ofInt IntKind.u32.bits (x : Int) ^^^ BitVec.ofInt IntKind.u32.bits (y : Int)).toNat = ((x ^^^ y : Nat) : Int) := by
  rw [BitVec.toNat_xor, ofInt_u32 hx, ofInt_u32 hy]; exact wrap_u32N (Nat.xor_lt_two_pow (n := 32) hx hy)
theorem ZmS (x y : Nat) (hx : x < 4294967296) (hy : y < 4294967296) : PC C Zbm [.agg [.nilsl, .int .u32 0], .int .u32 (x : Int), .int .u32 (y : Int)] (fun o => o = .ret (.int .u32 ((bo 1 x y : Nat) : Int))) := by
  refine PC.run ZbW Zd2 rfl Zd3 rfl (rs := [.tmp 6]) (by rw [Zd4]) (by simp only [List.length_cons, List.length_nil, Nat.reduceAdd, Nat.reduceSub, List.replicate_succ, List.replicate_zero, List.cons_append, List.nil_append]; exact rfl) ?_
  refine ARun.seq (ARun.region ?_)
  refine y_op rfl (q_boxF rfl rfl rfl rfl) ?_
  refine y_op rfl (Zaa rfl) ?_
  refine AOps.nil (ARun.seq (ARun.region ?_))
  refine y_op rfl (q_move rfl) ?_
  refine y_op rfl (q_move rfl) ?_
  refine y_op rfl (q_andR rfl rfl (land_u32 hx hy)) ?_
  refine y_op rfl (Zaa rfl) ?_
  refine AOps.nil ?_
  refine ARun.ret ?_
  refine ⟨_, _, _, .tmp rfl .nil, .cons (.same _) .nil, rfl, ?_⟩
  rfl
theorem Znb (x y : Nat) (hx : x < 4294967296) (hy : y < 4294967296) : PC C ZbA [.agg [.nilsl, .int .u32 0], .int .u32 (x : Int), .int .u32 (y : Int)] (fun o => o = .ret (.int .u32 ((bo 2 x y : Nat) : Int))) := by
  refine PC.run Zb5 Zeo rfl Zep rfl (rs := [.tmp 6]) (by rw [Zeq]) (by simp only [List.length_cons, List.length_nil, Nat.reduceAdd, Nat.reduceSub, List.replicate_succ, List.replicate_zero, List.cons_append, List.nil_append]; exact rfl) ?_
  refine ARun.seq (ARun.region ?_)
  refine y_op rfl (q_boxF rfl rfl rfl rfl) ?_
  refine y_op rfl (Zaa rfl) ?_
  refine AOps.nil (ARun.seq (ARun.region ?_))
  refine y_op rfl (q_move rfl) ?_
  refine y_op rfl (q_move rfl) ?_
  refine y_op rfl (q_orR rfl rfl (lor_u32 hx hy)) ?_
  refine y_op rfl (Zaa rfl) ?_
  refine AOps.nil ?_
  refine ARun.ret ?_
  refine ⟨_, _, _, .tmp rfl .nil, .cons (.same _) .nil, rfl, ?_⟩
  rfl
theorem ZmT (x y : Nat) (hx : x < 4294967296) (hy : y < 4294967296) : PC C Zbn [.agg [.nilsl, .int .u32 0], .int .u32 (x : Int), .int .u32 (y : Int)] (fun o => o = .ret (.int .u32 ((bo 3 x y : Nat) : Int))) := by
  refine PC.run ZbX Zd5 rfl Zd6 rfl (rs := [.tmp 6]) (by rw [Zd7]) (by simp only [List.length_cons, List.length_nil, Nat.reduceAdd, Nat.reduceSub, List.replicate_succ, List.replicate_zero, List.cons_append, List.nil_append]; exact rfl) ?_
  refine ARun.seq (ARun.region ?_)
  refine y_op rfl (q_boxF rfl rfl rfl rfl) ?_
  refine y_op rfl (Zaa rfl) ?_
  refine AOps.nil (ARun.seq (ARun.region ?_))
  refine y_op rfl (q_move rfl) ?_
  refine y_op rfl (q_move rfl) ?_
  refine y_op rfl (q_xorR rfl rfl (lxor_u32 hx hy)) ?_
  refine y_op rfl (Zaa rfl) ?_
  refine AOps.nil ?_
  refine ARun.ret ?_
  refine ⟨_, _, _, .tmp rfl .nil, .cons (.same _) .nil, rfl, ?_⟩
  rfl
theorem okCells2 {H : Heap} {a b : D} (h1 : okCell H a = true) (h2 : okCell H b = true) : [a, b].all (okCell H) = true := by
  simp only [List.all_cons, List.all_nil, h1, h2, Bool.and_true]
abbrev wrD (l : List Nat) (b : Bool) : D := .agg [sln .u32 l, .int .u32 ((rsN b : Nat) : Int)]
def elL (l : List Nat) (b : Bool) (i : Nat) : Nat := if i < l.length then l.getD i 0 else rsN b
theorem Zmq (l : List Nat) (b : Bool) (i : Nat) : PC C Zfz [wrD l b, .int .i64 (i : Int)] (fun o => o = .ret (.int .u32 ((elL l b i : Nat) : Int))) := by
  refine PC.run Zb6 Zer rfl Zes rfl (rs := [.tmp 4]) (by rw [Zet]) (by simp only [List.length_cons, List.length_nil, Nat.reduceAdd, Nat.reduceSub, List.replicate_succ, List.replicate_zero, List.cons_append, List.nil_append]; exact rfl) ?_
  refine ARun.seq (ARun.region ?_)
  refine y_op rfl (q_boxF rfl rfl rfl rfl) ?_
  refine y_op rfl (Zaa rfl) ?_
  refine AOps.nil (ARun.seq (ARun.seq (ARun.region ?_)))
  refine y_op rfl (q_move rfl) ?_
  refine y_op rfl (q_fldS rfl rfl rfl (by decide)) ?_
  refine y_op rfl (q_load rfl rfl rfl rfl) ?_
  refine y_op rfl (Zaf rfl rfl) ?_
  refine y_op rfl (q_int rfl rfl rfl) ?_
  refine AOps.nil ?_
  refine ARun.ite rfl (fun h => ?_) (fun h => ?_)
  · skip
    refine ARun.seq (ARun.region ?_)
    refine y_op rfl (q_fldS rfl rfl rfl (by decide)) ?_
    refine y_op rfl (q_load rfl rfl rfl rfl) ?_
    refine y_op rfl (q_move rfl) ?_
    refine y_op rfl (Zak (i := i) rfl rfl rfl rfl (by omega) (by omega) (nts_ne (by omega)) (drop_nat rfl)) ?_
    refine y_op rfl (q_load rfl rfl rfl (nts_load (i := i) (by omega))) ?_
    refine y_op rfl (Zaa rfl) ?_
    refine AOps.nil ?_
    refine ARun.ret ?_
    refine ⟨_, _, _, .tmp rfl .nil, .cons (.same _) .nil, rfl, ?_⟩
    rw [elL, if_pos (by omega)]; rfl
  · skip
    refine ARun.skip (ARun.seq (ARun.region ?_))
    refine y_op rfl (q_fldS rfl rfl rfl (by decide)) ?_
    refine y_op rfl (q_load rfl rfl rfl rfl) ?_
    refine y_op rfl (Zaa rfl) ?_
    refine AOps.nil ?_
    refine ARun.ret ?_
    refine ⟨_, _, _, .tmp rfl .nil, .cons (.same _) .nil, rfl, ?_⟩
    rw [elL, if_neg (by omega)]; rfl
theorem Zfj (xs : List Nat) (hx : U32 xs) : PC C ZgR [sln .u32 xs] (fun o => o = .ret (numD (val xs))) := by
  refine PC.run Zcw Zf3 rfl Zf4 rfl (rs := [.tmp 2]) (by rw [Zf5]) (by simp only [List.length_cons, List.length_nil, Nat.reduceAdd, Nat.reduceSub, List.replicate_succ, List.replicate_zero, List.cons_append, List.nil_append]; exact rfl) ?_
  refine ARun.lenle 0 rfl (fun hlen => ?_)
  rw [maxLen_eq] at hlen
  refine ARun.seq (ARun.region ?_)
  refine y_op rfl (Zaa rfl) ?_
  refine AOps.nil (ARun.seq (ARun.block ?_))
  refine ARun.loopI (S := List Nat) (fun ys : List Nat => [(3, .any), (4, .any), (5, .any), (6, .any), (7, .any), (8, .any), (9, .any), (10, .any), (11, .any), (12, .any), (13, .any), (14, .any), (15, .any), (16, .any), (17, .any), (18, .any), (19, .any), (0, sln .u32 ys)]) (fun ys : List Nat => []) (fun ys : List Nat => U32 ys ∧ val ys = val xs ∧ ys.length ≤ xs.length) (fun ys : List Nat => ys.length) (xs) ?_ ?_ ?_ ?_
  · exact ⟨hx, rfl, Nat.le_refl _⟩
  · (repeat' first | exact envLe_nil | apply envLe_any | apply envLe_same)
  · rfl
  rintro ys hinv ih
  obtain ⟨hu, hv, hl⟩ := hinv
  refine ARun.seq (ARun.seq (ARun.region ?_))
  refine y_op rfl (q_move rfl) ?_
  refine y_op rfl (Zaf rfl rfl) ?_
  refine y_op rfl (q_int rfl rfl rfl) ?_
  refine y_op rfl (q_move rfl) ?_
  refine AOps.bool 6 rfl (fun h => ?_) (fun h => ?_)
  · skip
    replace h := of_decide_eq_true h
    refine y_op rfl (q_move rfl) ?_
    refine y_op rfl (q_move rfl) ?_
    refine y_op rfl (Zaf rfl rfl) ?_
    refine y_op rfl (q_sub rfl rfl (nsub1_i64 (by omega) (by omega))) ?_
    refine y_op rfl (Zak rfl rfl rfl rfl (by omega) (by omega) (nts_ne (by omega)) (drop_nat rfl)) ?_
    refine y_op rfl (q_load rfl rfl rfl (nts_load (by omega))) ?_
    refine y_op rfl (q_int rfl rfl rfl) ?_
    refine y_op rfl (q_pick rfl rfl rfl rfl) ?_
    refine AOps.nil ?_
    refine ARun.ite rfl (fun h2 => ?_) (fun h2 => ?_)
    · skip
      replace h2 : ys.getD (ys.length - 1) 0 = 0 := by omega
      refine ARun.skip (ARun.block (ARun.region ?_))
      refine y_op rfl (q_move rfl) ?_
      refine y_op rfl (q_move rfl) ?_
      refine y_op rfl (Zaf rfl rfl) ?_
      refine y_op rfl (q_sub rfl rfl (nsub1_i64 (by omega) (by omega))) ?_
      refine y_op rfl (ZeN (m := ys.dropLast.length) (ds := nts .u32 ys.dropLast) rfl rfl rfl rfl rfl (bnd_nat rfl rfl) (by omega) (by omega) (by simp) (by simp) (by rw [nts_slice]; simp [List.dropLast_eq_take])) ?_
      refine y_op rfl (Zaa rfl) ?_
      refine AOps.nil (ARun.inBlock ?_)
      refine ARun.again (ih (ys.dropLast) ?_ ?_) ?_ ?_
      · exact ⟨hu.dropLast, by rw [val_dropLast h2]; exact hv, by simp; omega⟩
      · (simp; omega)
      · (repeat' first | exact envLe_nil | apply envLe_any | apply envLe_same)
      · rfl
    · skip
      refine ARun.exit rfl ?_
      refine ARun.seq (ARun.region ?_)
      refine y_op rfl (q_move rfl) ?_
      refine y_op rfl (Zaa rfl) ?_
      refine AOps.nil ?_
      refine ARun.ret ?_
      refine ⟨_, _, _, .tmp rfl .nil, .cons (.same _) .nil, rfl, ?_⟩
      rw [← hv, numD, lim_val hu (.inr (by omega))]
      rfl
  · skip
    replace h := of_decide_eq_false h
    refine y_skip rfl ?_
    refine y_skip rfl ?_
    refine y_skip rfl ?_
    refine y_skip rfl ?_
    refine y_skip rfl ?_
    refine y_skip rfl ?_
    refine y_skip rfl ?_
    refine y_op rfl (q_pick rfl rfl rfl rfl) ?_
    refine AOps.nil ?_
    refine ARun.condF rfl ?_
    refine ARun.exit rfl ?_
    refine ARun.seq (ARun.region ?_)
    refine y_op rfl (q_move rfl) ?_
    refine y_op rfl (Zaa rfl) ?_
    refine AOps.nil ?_
    refine ARun.ret ?_
    refine ⟨_, _, _, .tmp rfl .nil, .cons (.same _) .nil, rfl, ?_⟩
    have : ys = [] := List.eq_nil_of_length_eq_zero (by omega)
    subst this
    rw [← hv, numD, val, lim_zero]
    rfl
theorem wl_snoc {l : List Nat} {i : Nat} (h : i < l.length) : (l.take (i + 1)).map (fun x => 4294967295 - x) = (l.take i).map (fun x => 4294967295 - x) ++ [4294967295 - l.getD i 0] := by
  rw [List.take_add_one, List.getElem?_eq_getElem h, List.getD_eq_getElem?_getD, List.getElem?_eq_getElem h, List.map_append]
  rfl
theorem Zdb (a : Int) (ha : fitZ a) : PC C Zd8 [intD a] (fun o => o = .ret (wrD (wl a) (decide (a < 0)))) := by
  refine PC.run ZbJ Zdx rfl Zdy rfl (rs := [.cell 2 150]) (by rw [Zdz]) (by simp only [List.length_cons, List.length_nil, Nat.reduceAdd, Nat.reduceSub, List.replicate_succ, List.replicate_zero, List.cons_append, List.nil_append]; exact rfl) ?_
  refine ARun.seq (ARun.region ?_)
  refine y_op rfl (q_boxF rfl rfl rfl rfl) ?_
  refine y_new rfl (Zag rfl rfl rfl rfl) ?_
  refine AOps.nil (ARun.seq (ARun.seq (ARun.region ?_)))
  refine y_op rfl (q_fldS rfl rfl rfl (by decide)) ?_
  refine y_op rfl (q_load rfl rfl rfl rfl) ?_
  refine y_op rfl (q_not rfl) ?_
  refine AOps.nil ?_
  refine ARun.cond rfl (fun hs => ?_) (fun hs => ?_)
  · skip
    have hs : ¬ a < 0 := by simpa using hs
    refine ARun.seq (ARun.region ?_)
    refine y_op rfl (q_fldS rfl rfl rfl (by decide)) ?_
    refine y_op rfl (q_load rfl rfl rfl rfl) ?_
    refine y_op rfl (ZaD rfl rfl rfl rfl rfl) ?_
    refine y_new rfl (Zac rfl rfl rfl rfl rfl rfl rfl rfl (Nat.le_of_ble_eq_true rfl) rfl) ?_
    refine AOps.nil ?_
    refine ARun.ret ?_
    refine ⟨_, _, _, ResR.cellA rfl rfl rfl rfl rfl rfl .nil, .cons (.same _) .nil, rfl, ?_⟩
    rw [decide_eq_false hs, wl, if_neg hs]; rfl
  · skip
    have hs : a < 0 := by simpa using hs
    have hone : (lim 1).length ≤ 1024 := by rw [lim_one]; decide
    have hl1 : (lim (a.natAbs - 1)).length ≤ 1024 := Nat.le_trans (ln_mono (Nat.sub_le _ _)) ha
    have hsub := natSub_ok ha hone (show 1 ≤ a.natAbs by omega)
    rw [← numD_one] at hsub
    refine ARun.skip (ARun.seq (ARun.region ?_))
    refine y_op rfl (ZaD rfl rfl rfl rfl rfl) ?_
    refine y_new rfl (Zag rfl rfl rfl rfl) ?_
    refine y_new rfl (Zac rfl rfl rfl rfl rfl rfl rfl rfl (Nat.le_of_ble_eq_true rfl) rfl) ?_
    refine AOps.nil (ARun.seq (ARun.seq (ARun.region ?_)))
    refine y_op rfl (q_fldS rfl rfl rfl (by decide)) ?_
    refine y_op rfl (q_load rfl rfl rfl rfl) ?_
    refine y_op rfl (Zan rfl rfl rfl rfl rfl rfl rfl rfl rfl rfl rfl (by decide) (by decide) rfl) ?_
    refine y_op rfl (q_call rfl rfl (hsub)) ?_
    refine y_op rfl (Zab rfl rfl) ?_
    refine y_op rfl (Zab rfl rfl) ?_
    refine y_op rfl (q_call rfl rfl (Zbq (a.natAbs - 1))) ?_
    refine y_op rfl (Zaf rfl rfl) ?_
    refine y_op rfl (q_move rfl) ?_
    refine AOps.nil (ARun.block ?_)
    refine ARun.loopI (S := Nat × Heap) (fun σ : Nat × Heap => [(5, .any), (22, .any), (23, .any), (24, .any), (25, .any), (26, .any), (27, .any), (28, .any), (29, .any), (30, .any), (31, .any), (32, .any), (21, .int .i64 (σ.1 : Int))]) (fun σ : Nat × Heap => some ⟨[.nilsl, .int .u32 0], Zbc, 1, true, none⟩ :: some ⟨[growD (2 + σ.2.length) (nts .u32 (((lim (a.natAbs - 1)).take σ.1).map (fun x => 4294967295 - x))), .int .u32 4294967295], Zbc, 1, true, none⟩ :: growT σ.2 Zap (nts .u32 (((lim (a.natAbs - 1)).take σ.1).map (fun x => 4294967295 - x)))) (fun σ : Nat × Heap => σ.1 ≤ (lim (a.natAbs - 1)).length) (fun σ : Nat × Heap => (lim (a.natAbs - 1)).length - σ.1) ((0, [])) ?_ ?_ ?_ ?_
    · exact Nat.zero_le _
    · (repeat' first | exact envLe_nil | apply envLe_any | apply envLe_same)
    · rfl
    rintro ⟨i, J⟩ hinv ih
    dsimp only at hinv ih ⊢
    have hlen : (((lim (a.natAbs - 1)).take i).map (fun x => 4294967295 - x)).length = i := by rw [List.length_map, List.length_take]; omega
    have hbl : (nts .u32 (((lim (a.natAbs - 1)).take i).map (fun x => 4294967295 - x))).length = i := by rw [nts_length, hlen]
    refine ARun.seq (ARun.region ?_)
    refine y_op rfl (q_int rfl rfl rfl) ?_
    refine AOps.nil (ARun.seq ?_)
    refine ARun.ite rfl (fun h => ?_) (fun h => ?_)
    · skip
      have hi : i < (lim (a.natAbs - 1)).length := by omega
      refine ARun.skip (ARun.seq (ARun.block (ARun.seq (ARun.region ?_))))
      refine y_op rfl (Zak rfl rfl rfl rfl (by omega) (by omega) (nts_ne (by omega)) (drop_nat rfl)) ?_
      refine y_op rfl (q_load rfl rfl rfl (lim_load hi)) ?_
      refine y_op rfl (Zaa rfl) ?_
      refine AOps.nil (ARun.region ?_)
      refine y_op rfl (q_fldP rfl rfl rfl (by decide)) ?_
      refine y_op rfl (Zai rfl rfl rfl rfl rfl) ?_
      refine y_op rfl (q_move rfl) ?_
      refine y_op rfl (Zl7 rfl (compl_u32 (dig_lt _ i))) ?_
      refine y_new rfl (Zam rfl rfl rfl rfl rfl rfl rfl rfl rfl rfl rfl (by decide) (by decide)) ?_
      refine y_grow rfl rfl rfl rfl rfl rfl rfl rfl rfl rfl (by show (_ + 1) * 4 ≤ _; omega) (by omega) (fun J' => ?_)
      refine y_op rfl (q_fldP rfl rfl rfl (by decide)) ?_
      refine y_new rfl (Zah rfl rfl rfl (okCell_grow (B := [_, _]) rfl) rfl rfl (Nat.le_of_ble_eq_true rfl) rfl) ?_
      refine AOps.nil (ARun.inBlock (ARun.region ?_))
      refine y_op rfl (q_add rfl rfl (nadd1_i64 (by omega))) ?_
      refine y_op rfl (q_move rfl) ?_
      refine AOps.nil ?_
      rw [nts_snoc, ← lim_get, ← wl_snoc hi]
      refine ARun.again (ih ((i + 1, J')) ?_ ?_) ?_ ?_
      · exact hi
      · (dsimp only; omega)
      · (repeat' first | exact envLe_nil | apply envLe_any | apply envLe_same)
      · rfl
    · skip
      obtain rfl : i = (lim (a.natAbs - 1)).length := by omega
      rw [List.take_length]
      obtain ⟨ids, hz⟩ := Fz.grow (B := [some ⟨[growD (2 + J.length) (nts .u32 ((lim (a.natAbs - 1)).map (fun x => 4294967295 - x))), .int .u32 4294967295], Zbc, 1, true, none⟩, some ⟨[growD (2 + J.length) (nts .u32 ((lim (a.natAbs - 1)).map (fun x => 4294967295 - x))), .int .u32 4294967295], Zbc, 1, true, none⟩]) (J := J) (e := Zap) (cs := nts .u32 ((lim (a.natAbs - 1)).map (fun x => 4294967295 - x))) (m := 2 + J.length) rfl (pures_nts _)
      refine ARun.exit rfl ?_
      refine ARun.seq (ARun.region ?_)
      refine y_op rfl (Zae rfl rfl rfl rfl rfl rfl) ?_
      refine y_new rfl (Zac rfl rfl rfl rfl rfl (okCells2 (okCell_grow (B := [_, _]) rfl) rfl) rfl rfl (Nat.le_of_ble_eq_true rfl) rfl) ?_
      refine AOps.nil ?_
      refine ARun.ret ?_
      refine ⟨_, _, _, ResR.cellA rfl rfl rfl rfl rfl rfl .nil, .cons (.agg (.cons hz (.cons (.same _) .nil))) .nil, rfl, ?_⟩
      rw [decide_eq_true hs, wl, if_pos hs, nts_length]; rfl
end Go.V
set_option maxHeartbeats 4000000
set_option maxRecDepth 100000
set_option synthInstance.maxSize 100000
set_option synthInstance.maxHeartbeats 2000000
namespace Go.V
open Go.RowKit Go.Proofs
theorem valid_lim {n : Nat} (hl : (lim n).length ≤ 1024) : PC C ZgA [numD n] (fun o => o = .ret (.bool true)) :=
  (Zb1 (lim n) inferInstance).mono fun o ho => by rw [ho, decide_eq_true (show okNat (lim n) from ⟨hl, Canon_lim n⟩)]
theorem need_ok (e : Int) : PC C Ze6 [.bool true, .int .i64 e] (fun o => o = .ret (.tup [])) :=
  (ZaV true e).mono fun o ho => (ho.resolve_right (fun h => by cases h.1)).2
theorem must_add1 {a : Nat} (ha : (lim a).length ≤ 1024) : PC C ZaF [numD (resN (lim a) (lim 1) (.inl (val (lim a) + val (lim 1)))).1, .int .i64 (resN (lim a) (lim 1) (.inl (val (lim a) + val (lim 1)))).2] (fun o => ((lim (a + 1)).length ≤ 1024 ∧ o = .ret (numD (a + 1))) ∨ ∃ p, (¬ (lim (a + 1)).length ≤ 1024 ∧ p = failW 2) ∧ o = .pan p) := by
  rw [val_lim, val_lim]
  exact must_add ha (by rw [lim_one]; decide)
theorem inv_nat {l : List Nat} (hu : U32 l) : -((val (l.map (fun x => 4294967295 - x)) + 1 : Nat) : Int) = ivZ l true := by
  have := val_inv hu
  unfold ivZ
  rw [cond_true]
  omega
theorem Zkg (l : List Nat) (hu : U32 l) (b : Bool) (hl : l.length ≤ 1024) : PC C Zbr [wrD l b] (fun o => o = outZ (fitO (ivZ l b))) := by
  refine PC.run Zbj ZcC rfl ZcD rfl (rs := [.cell 2 25]) (by rw [ZcE]) (by simp only [List.length_cons, List.length_nil, Nat.reduceAdd, Nat.reduceSub, List.replicate_succ, List.replicate_zero, List.cons_append, List.nil_append]; exact rfl) ?_
  refine ARun.seq (ARun.region ?_)
  refine y_op rfl (q_boxF rfl rfl rfl rfl) ?_
  refine y_new rfl (Zag rfl rfl rfl rfl) ?_
  refine AOps.nil (ARun.seq (ARun.seq (ARun.region ?_)))
  refine y_op rfl (q_fldS rfl rfl rfl (by decide)) ?_
  refine y_op rfl (q_load rfl rfl rfl rfl) ?_
  refine y_op rfl (q_int rfl rfl rfl) ?_
  refine AOps.nil ?_
  refine ARun.ite rfl (fun h => ?_) (fun h => ?_)
  · skip
    obtain rfl : b = false := by
      cases b with
      | false => rfl
      | true => exact absurd h (by decide)
    have hv : (lim (val l)).length ≤ 1024 := Nat.le_trans (ln_le (val_lt hu)) hl
    have hi : ivZ l false = sgnd false (val l) := by unfold ivZ sgnd; rw [cond_false, cond_false]; omega
    have hf : fitZ (ivZ l false) := by unfold fitZ; rw [hi, sgnd_abs]; exact hv
    rw [fitO_t hf, hi]
    refine ARun.seq (ARun.region ?_)
    refine y_op rfl (q_fldS rfl rfl rfl (by decide)) ?_
    refine y_op rfl (q_load rfl rfl rfl rfl) ?_
    refine y_op rfl (q_call rfl rfl (Zfj l hu)) ?_
    refine y_op rfl (Zaa rfl) ?_
    refine AOps.nil (ARun.seq (ARun.region ?_))
    refine y_op rfl (q_move rfl) ?_
    refine y_op rfl (q_call rfl rfl (valid_lim hv)) ?_
    refine y_op rfl (q_call rfl rfl (need_ok 2)) ?_
    refine AOps.nil (ARun.seq (ARun.region ?_))
    refine y_op rfl (q_move rfl) ?_
    refine y_op rfl (q_call rfl rfl (Zaj false (val l))) ?_
    refine y_new rfl (Zac rfl rfl rfl rfl rfl rfl rfl rfl (Nat.le_of_ble_eq_true rfl) rfl) ?_
    refine AOps.nil ?_
    refine ARun.ret ?_
    refine ⟨_, _, _, ResR.cellA rfl rfl rfl rfl rfl rfl .nil, .cons (.same _) .nil, rfl, ?_⟩
    rfl
  · skip
    obtain rfl : b = true := by
      cases b with
      | true => rfl
      | false => exact absurd rfl h
    refine ARun.skip (ARun.seq (ARun.region ?_))
    refine y_op rfl (Zaa rfl) ?_
    refine AOps.nil (ARun.seq (ARun.seq (ARun.region ?_)))
    refine y_op rfl (q_fldS rfl rfl rfl (by decide)) ?_
    refine y_op rfl (q_load rfl rfl rfl rfl) ?_
    refine y_op rfl (Zaf rfl rfl) ?_
    refine y_op rfl (q_move rfl) ?_
    refine AOps.nil (ARun.block ?_)
    refine ARun.loopI (S := Nat × Heap) (fun σ : Nat × Heap => [(6, .any), (23, .any), (24, .any), (25, .any), (26, .any), (27, .any), (28, .any), (29, .any), (30, .any), (31, .any), (4, growD (1 + σ.2.length) (nts .u32 ((l.take σ.1).map (fun x => 4294967295 - x)))), (22, .int .i64 (σ.1 : Int))]) (fun σ : Nat × Heap => some ⟨[.bool false, .nilsl], ZcL, 1, true, none⟩ :: growT σ.2 Zap (nts .u32 ((l.take σ.1).map (fun x => 4294967295 - x)))) (fun σ : Nat × Heap => σ.1 ≤ l.length) (fun σ : Nat × Heap => l.length - σ.1) ((0, [])) ?_ ?_ ?_ ?_
    · exact Nat.zero_le _
    · (repeat' first | exact envLe_nil | apply envLe_any | apply envLe_same)
    · rfl
    rintro ⟨i, J⟩ hinv ih
    dsimp only at hinv ih ⊢
    have hlen : ((l.take i).map (fun x => 4294967295 - x)).length = i := by rw [List.length_map, List.length_take]; omega
    have hbl : (nts .u32 ((l.take i).map (fun x => 4294967295 - x))).length = i := by rw [nts_length, hlen]
    refine ARun.seq (ARun.region ?_)
    refine y_op rfl (q_int rfl rfl rfl) ?_
    refine AOps.nil (ARun.seq ?_)
    refine ARun.ite rfl (fun h2 => ?_) (fun h2 => ?_)
    · skip
      have hi : i < l.length := by omega
      refine ARun.skip (ARun.seq (ARun.block (ARun.seq (ARun.region ?_))))
      refine y_op rfl (Zak rfl rfl rfl rfl (by omega) (by omega) (nts_ne (by omega)) (drop_nat rfl)) ?_
      refine y_op rfl (q_load rfl rfl rfl (nts_load hi)) ?_
      refine y_op rfl (Zaa rfl) ?_
      refine AOps.nil (ARun.region ?_)
      refine y_op rfl (q_move rfl) ?_
      refine y_op rfl (q_move rfl) ?_
      refine y_op rfl (Zl7 rfl (compl_u32 (hu.get i))) ?_
      refine y_new rfl (Zam rfl rfl rfl rfl rfl rfl rfl rfl rfl rfl rfl (by decide) (by decide)) ?_
      refine y_grow rfl rfl rfl rfl rfl rfl rfl rfl rfl rfl (by show (_ + 1) * 4 ≤ _; omega) (by omega) (fun J' => ?_)
      rw [nts_snoc, ← wl_snoc hi]
      refine y_op rfl (Zaa rfl) ?_
      refine AOps.nil (ARun.inBlock (ARun.region ?_))
      refine y_op rfl (q_add rfl rfl (nadd1_i64 (by omega))) ?_
      refine y_op rfl (q_move rfl) ?_
      refine AOps.nil ?_
      refine ARun.again (ih ((i + 1, J')) ?_ ?_) ?_ ?_
      · exact hi
      · (dsimp only; omega)
      · (repeat' first | exact envLe_nil | apply envLe_any | apply envLe_same)
      · rfl
    · skip
      obtain rfl : i = l.length := by omega
      rw [List.take_length]
      have hi := inv_nat hu
      generalize hX : l.map (fun x => 4294967295 - x) = X at *
      have hXu : U32 X := by rw [← hX]; exact U32_inv
      have hXl : X.length ≤ 1024 := by rw [← hX, List.length_map]; exact hl
      have hv : (lim (val X)).length ≤ 1024 := Nat.le_trans (ln_le (val_lt hXu)) hXl
      have hone : (lim 1).length ≤ 1024 := by rw [lim_one]; decide
      refine ARun.growEnd 4 rfl (pures_nts _) (fun J' => ?_)
      rw [sln_len]
      refine ARun.exit rfl ?_
      refine ARun.seq (ARun.region ?_)
      refine y_op rfl (q_move rfl) ?_
      refine y_op rfl (q_call rfl rfl (Zfj X hXu)) ?_
      refine y_op rfl (Zaa rfl) ?_
      refine AOps.nil (ARun.seq (ARun.region ?_))
      refine y_op rfl (q_move rfl) ?_
      refine y_op rfl (q_call rfl rfl (valid_lim hv)) ?_
      refine y_op rfl (q_call rfl rfl (need_ok 2)) ?_
      refine AOps.nil (ARun.seq (ARun.region ?_))
      refine y_op rfl (q_move rfl) ?_
      refine y_op rfl (OpQ.cast (Zan rfl rfl rfl rfl rfl rfl rfl rfl rfl rfl rfl (by decide) (by decide) rfl) numD_one) ?_
      refine y_op rfl (q_call rfl rfl (ZeS (lim (val X)) (lim 1) (U32_lim _) (U32_lim _))) ?_
      refine y_op rfl (Zab rfl rfl) ?_
      refine y_op rfl (Zab rfl rfl) ?_
      refine y_gop rfl (g_call (g := (lim (val X + 1)).length ≤ 1024) (d := numD (val X + 1)) rfl rfl (must_add1 hv)) (fun hg => ?_) (fun q hq => by obtain ⟨hq, rfl⟩ := hq; exact ⟨_, _, .same _, rfl, by rw [fitO_f (by unfold fitZ; rw [← hi, Int.natAbs_neg, Int.natAbs_natCast]; exact hq)]; rfl⟩)
      have hf : fitZ (ivZ l true) := by unfold fitZ; rw [← hi, Int.natAbs_neg, Int.natAbs_natCast]; exact hg
      rw [fitO_t hf, ← hi]
      refine y_op rfl (q_call rfl rfl (Zaj true (val X + 1))) ?_
      refine y_new rfl (Zac rfl rfl rfl rfl rfl rfl rfl rfl (Nat.le_of_ble_eq_true rfl) rfl) ?_
      refine AOps.nil ?_
      refine ARun.ret ?_
      refine ⟨_, _, _, ResR.cellA rfl rfl rfl rfl rfl rfl .nil, .cons (.same _) .nil, rfl, ?_⟩
      rfl
end Go.V
/- METHODS BOUND TO THEIR RECEIVERS. -/
set_option maxHeartbeats 1000000
namespace Go.V
open Go.RowKit Go.Proofs
section
variable {C : Ctx} {env : List D} {H : Heap} {dst : Option Tmp} {ty : TypeId} {pos : String} {aft : Array Edge} {gd : Option (Nat × Bool)} {x : Operand} {d : D}
theorem Znc {f : FuncId} {caps ds ds' : List D} {ids : List Nat} {args : List Operand} {tys : Array TypeId} {R : Out → Heap → Prop} (hx : evO C env x = some (.bnd f caps)) (ha : evOs C env args = some ds) (hz : FzL H (caps ++ ds) ds' ids) (hc : HC C f (frz H ids) ds' R) :
    OpH C ⟨dst, .call ⟨.value x, args.toArray, tys⟩, ty, pos, aft, gd⟩ env H (fun d H' => R (.ret d) H') (fun d H' => R (.pan d) H') := by
  refine ⟨fun L0 w μ a hs hv => ?_⟩
  have ex := evO_ok hs hv hx
  have ea := evOs_ok hs hv ha
  simp only [VR] at ex
  obtain ⟨cvs, ex, ec⟩ := ex
  obtain ⟨hs', he'⟩ := hs.weak (HWeak.frz (ids := ids))
  have st := he'.step L0
  have hargs := FzL.ok hs' hz (fun i hi o ho => frz_dead hi ho) (VRs.step st (VRs_append ec ea))
  have hcall := hc.2 L0 w μ _ hs' hargs
  have hrun : (execOp a.eval ⟨dst, .call ⟨.value x, args.toArray, tys⟩, ty, pos, aft, gd⟩).run C.P w = .ok (.enter f (cvs ++ args.map a.eval).toArray) w := by
    have h1 : (args.toArray.map a.eval) = (args.map a.eval).toArray := by simp
    simp only [execOp, resolve, h1, ex, Deferred.ofValue, Sem.run_bind, Sem.run_pure, Result.andThen_ok, invoke]
    have h2 : (cvs.toArray ++ (args.map a.eval).toArray ++ #[] : Array Value) = (cvs ++ args.map a.eval).toArray := by simp
    rw [h2]
    exact hc.1 _ _
  unfold Oper.wp
  rw [hrun]
  refine hcall.mono fun e w' hf => ?_
  obtain ⟨o, H1, μ1, hR, s1, hO, e1⟩ := hf
  cases o with
  | ret d =>
    obtain ⟨v, rfl, hd⟩ := hO
    exact ⟨v, d, H1, μ1, hR, rfl, s1, hd, he'.trans e1⟩
  | pan d =>
    obtain ⟨v, rfl, hd⟩ := hO
    exact ⟨v, d, H1, μ1, rfl, rfl, hR, s1, hd, he'.trans e1⟩
theorem Zmr {f : FuncId} {caps ds : List D} {args : List Operand} {tys : Array TypeId} (hx : evO C env x = some (.bnd f caps)) (ha : evOs C env args = some ds) (hc : PC C f (caps ++ ds) (fun o => o = .ret d)) : OpQ C ⟨dst, .call ⟨.value x, args.toArray, tys⟩, ty, pos, aft, gd⟩ env H d :=
  OpH.mono (fun d' H' ⟨h1, h2⟩ => by injection h2 with h2; exact ⟨h2, h1⟩) (fun d' H' ⟨_, h2⟩ => by cases h2) (Znc (H := H) (ids := []) hx ha (FzL.sames _) (hc H))
theorem ZeU {f : FuncId} {caps : List Operand} {ds : List D} (h : evOs C env caps = some ds) : OpQ C ⟨dst, .makeFunc (.func f) caps.toArray #[], ty, pos, aft, gd⟩ env H (.bnd f ds) := by
  refine ⟨fun L0 w μ a hs hv => ?_⟩
  have h1 := evOs_ok hs hv h
  have : (execOp a.eval ⟨dst, .makeFunc (.func f) caps.toArray #[], ty, pos, aft, gd⟩).run C.P w = .ok (.value (.func (.func f) (caps.map a.eval).toArray #[])) w := by
    simp [execOp, Instr.makeFunc]
  unfold Oper.wp
  rw [this]
  exact ⟨_, .bnd f ds, H, μ, ⟨rfl, rfl⟩, rfl, hs, by simp only [VR]; exact ⟨_, rfl, h1⟩, Evo.refl _ _ _⟩
end
section
variable {C : Ctx} {Q : Post} {k : List Item} {env env' : List D} {H : Heap} {df : List ADef} {ops : Array Oper} {rest : List Oper} {i : Nat} {is : List Nat} {d dx : D}
variable {dst : Option Tmp} {ty : TypeId} {pos : String} {aft : Array Edge} {gd : Option (Nat × Bool)} {x y : Operand} {T e : TypeId} {te tee : TE} {n b S : Nat} {J : Heap} {cs : List D} {F : Heap → Heap} {zv : Value} {dz : D} {zs : List D}
theorem Znd [g : GrowL H n J e cs F] (ht : C.ty T = some ⟨.slice e, S, b, zv⟩) (hee : C.ty e = some tee) (h1 : tee.size = 1) (hz : constD tee.zero = some dz) (hzs : cellsD dz = some zs) (hzl : zs.length = 1)
    (hx : evO C env x = some (growD (n + J.length) cs)) (hy : evO C env y = some (.sl 1 [dx])) (hb : (cs.length + 1) * tee.bytes ≤ 140737488355328) (hm : cs.length + 1 ≤ 1099511627776) :
    OpH C ⟨dst, .call ⟨.builtin .append, #[x, y], #[T, T]⟩, ty, pos, aft, gd⟩ env H (fun d H' => ∃ J' : Heap, d = growD (n + J'.length) (cs ++ [dx]) ∧ H' = F (growT J' e (cs ++ [dx]))) (fun _ _ => False) := by
  obtain ⟨B, g1, g2, g3⟩ := g.prf
  obtain ⟨sk, sz, sb, sv⟩ := tee
  subst h1
  subst g3
  subst g1
  have hsrc : srcD H (.sl 1 [dx]) = some (1, [dx]) := rfl
  replace hm : cs.length + 1 ≤ maxLen := by rw [maxLen_eq]; omega
  cases cs with
  | nil =>
    subst g2
    have h := ZgY (C := C) (dst := dst) (ty := ty) (pos := pos) (aft := aft) (gd := gd) (ty_slice ht) (ty_tic hee).1 (Nat.one_pos) hz hzs hzl hx hy hsrc rfl (by decide) (by simpa using hb) (by simpa using hm)
    refine OpH.mono ?_ (fun _ _ h => h) h
    rintro d H' ⟨rfl, rfl⟩
    refine ⟨J, ?_, ?_⟩
    · simp [growD, growT]
    · simp [growT]
  | cons c cs =>
    subst g2
    have ho : (B ++ growT J e (c :: cs))[B.length + J.length]? = some (some ⟨c :: cs, e, 1, true, none⟩) := by
      simp only [growT]
      rw [List.getElem?_append_right (by omega), Nat.add_sub_cancel_left, List.getElem?_append_right (by omega)]
      simp
    have h := ZiK (C := C) (dst := dst) (ty := ty) (pos := pos) (aft := aft) (gd := gd) (ty_slice ht) (ty_tic hee).1 (Nat.one_pos) hz hzs hzl (n := cs.length + 1) (m := 1) hx ho rfl rfl rfl hy hsrc rfl (by simpa using hb) (by simpa using hm)
    refine OpH.mono ?_ (fun _ _ h => h) h
    rintro d H' ⟨rfl, rfl⟩
    refine ⟨J ++ [none], ?_, ?_⟩
    · simp [growD, growT, Nat.add_assoc]
    · have e1 : ∀ r : Option AObj, B ++ (J ++ [r]) = (B ++ J) ++ [r] := fun r => by simp
      simp only [growT, List.cons_append]
      rw [e1, List.set_append_right _ _ (by simp), show B.length + J.length - (B ++ J).length = 0 by simp]
      simp
theorem Zne [g : GrowL H n J e cs F] {E : Heap → List D} (hg : gOk ops.toList env gd = some true) (ht : C.ty T = some ⟨.slice e, S, b, zv⟩) (hee : C.ty e = some tee) (h1 : tee.size = 1) (hz : constD tee.zero = some dz) (hzs : cellsD dz = some zs) (hzl : zs.length = 1)
    (hx : evO C env x = some (growD (n + J.length) cs)) (hy : evO C env y = some (.sl 1 [dx])) (hb : (cs.length + 1) * tee.bytes ≤ 140737488355328) (hm : cs.length + 1 ≤ 1099511627776)
    [hp : ∀ J' : Heap, Put env dst (growD (n + J'.length) (cs ++ [dx])) (E J')] (hk : ∀ J' : Heap, AOps C Q ops rest k (E J') (F (growT J' e (cs ++ [dx]))) df) :
    AOps C Q ops (⟨dst, .call ⟨.builtin .append, #[x, y], #[T, T]⟩, ty, pos, aft, gd⟩ :: rest) k env H df :=
  AOps.opH hg (Znd ht hee h1 hz hzs hzl hx hy hb hm) (fun d H' ⟨J', h1, h2⟩ => by subst h1; subst h2; have := (hp J').eq; simp only at this ⊢; rw [this]; exact hk J') (fun _ _ h => h.elim)
theorem ARun.growEndA [g : GrowL H n J e cs F] (t : Nat) {d0 : D} (ht : env[t]? = some (.agg [growD (n + J.length) cs, d0])) (hc : D.pure.pures cs = true) [hp : Put env (some t) (.agg [.sl cs.length cs, d0]) env'] (hk : ∀ J' : Heap, ARun C Q k env' (F J') df) : ARun C Q k env H df := by
  obtain ⟨B, g1, g2, g3⟩ := g.prf
  subst g3; subst g2; subst g1
  have hp := hp.eq
  subst hp
  have htl : t < env.length := (List.getElem?_eq_some_iff.1 ht).1
  cases cs with
  | nil =>
    have := hk J
    refine ⟨fun L0 w0 μ0 H0 w μ a hs hv hd he b cs hrd => this.out L0 w0 μ0 H0 w μ a hs ?_ hd he b cs hrd⟩
    refine VRs_mk (by rw [VRs_length hv]; simp [envPut]) fun j d v h1 h2 => ?_
    simp only [envPut, List.getElem?_set] at h1
    by_cases e : t = j
    · subst e
      simp only [htl, if_true] at h1
      injection h1 with h1; subst h1
      obtain ⟨v', h3, h4⟩ := VRs_get hv ht
      rw [h2] at h3; injection h3 with h3; subst h3
      exact Fz.ok (H := []) hs (.agg (.cons .nil (.cons (.same _) .nil))) (by simp) h4
    · rw [if_neg e] at h1
      obtain ⟨v', h3, h4⟩ := VRs_get hv h1
      rw [h2] at h3; injection h3 with h3; subst h3; exact h4
  | cons c cs' =>
    have ho : (B ++ growT J e (c :: cs'))[B.length + J.length]? = some (some ⟨c :: cs', e, 1, true, none⟩) := by
      simp only [growT]
      rw [List.getElem?_append_right (by omega), Nat.add_sub_cancel_left, List.getElem?_append_right (by omega)]
      simp
    have hset : (B ++ growT J e (c :: cs')).set (B.length + J.length) (some ⟨c :: cs', e, 1, false, none⟩) = B ++ (J ++ [some ⟨c :: cs', e, 1, false, none⟩]) := by
      simp only [growT]
      rw [List.set_append_right _ _ (by omega), Nat.add_sub_cancel_left, List.set_append_right _ _ (by omega)]
      simp
    have hw : HWeak (B ++ growT J e (c :: cs')) (B ++ (J ++ [some ⟨c :: cs', e, 1, false, none⟩])) := by rw [← hset]; exact HWeak.one ho
    have := hk (J ++ [some ⟨c :: cs', e, 1, false, none⟩])
    refine ARun.weak hw ⟨fun L0 w0 μ0 H0 w μ a hs hv hd he b cs hrd => this.out L0 w0 μ0 H0 w μ a hs ?_ hd he b cs hrd⟩
    refine VRs_mk (by rw [VRs_length hv]; simp [envPut]) fun j d v h1 h2 => ?_
    simp only [envPut, List.getElem?_set] at h1
    by_cases e : t = j
    · subst e
      simp only [htl, if_true] at h1
      injection h1 with h1; subst h1
      obtain ⟨v', h3, h4⟩ := VRs_get hv ht
      rw [h2] at h3; injection h3 with h3; subst h3
      refine Fz.ok hs (.agg (.cons (.row ho hc) (.cons (.same _) .nil))) (fun i hi o ho' => ?_) h4
      simp only [List.append_nil, List.mem_cons, List.not_mem_nil, or_false] at hi
      subst hi
      rw [ho] at ho'
      injection ho' with ho'; injection ho' with ho'; subst ho'
      rw [← hset]
      rw [List.getElem?_set_self (List.getElem?_eq_some_iff.1 ho).1]
    · rw [if_neg e] at h1
      obtain ⟨v', h3, h4⟩ := VRs_get hv h1
      rw [h2] at h3; injection h3 with h3; subst h3; exact h4
theorem AOps.growEndA {l : List Oper} [g : GrowL H n J e cs F] (t : Nat) {d0 : D} (ht : env[t]? = some (.agg [growD (n + J.length) cs, d0])) (hc : D.pure.pures cs = true) [hp : Put env (some t) (.agg [.sl cs.length cs, d0]) env'] (hk : ∀ J' : Heap, AOps C Q ops l k env' (F J') df) : AOps C Q ops l k env H df :=
  ⟨fun i hi => ARun.growEndA t ht hc (fun J' => (hk J').out i hi)⟩
end
end Go.V
set_option maxHeartbeats 4000000
set_option maxRecDepth 100000
set_option synthInstance.maxSize 100000
set_option synthInstance.maxHeartbeats 2000000
namespace Go.V
open Go.RowKit Go.Proofs
abbrev wr0 : D := .agg [.nilsl, .int .u32 0]
abbrev bitM : List (D × D) := [(.int .i64 1, .bnd Zbm [wr0]), (.int .i64 2, .bnd ZbA [wr0]), (.int .i64 3, .bnd Zbn [wr0])]
noncomputable def bitO (op : Int) (a b : Int) : Int ⊕ Int := if 1 ≤ op ∧ op ≤ 3 then fitO (bitZ op a b) else .inr 1
theorem find_no {op : Int} (h : ¬ (1 ≤ op ∧ op ≤ 3)) : findI .i64 op bitM = some none := by
  have h1 : (op == 1) = false := beq_eq_false_iff_ne.2 (by omega)
  have h2 : (op == 2) = false := beq_eq_false_iff_ne.2 (by omega)
  have h3 : (op == 3) = false := beq_eq_false_iff_ne.2 (by omega)
  simp only [bitM, findI, h1, h2, h3, decide_true, cond_true, cond_false]
theorem find_op {op : Int} (h1 : 1 ≤ op) (h3 : op ≤ 3) : ∃ f, findI .i64 op bitM = some (some (.bnd f [wr0])) ∧ ∀ x y : Nat, x < 4294967296 → y < 4294967296 → PC C f [wr0, .int .u32 (x : Int), .int .u32 (y : Int)] (fun o => o = .ret (.int .u32 ((bo op x y : Nat) : Int))) := by
  have : op = 1 ∨ op = 2 ∨ op = 3 := by omega
  rcases this with rfl | rfl | rfl
  · exact ⟨Zbm, rfl, fun x y hx hy => ZmS x y hx hy⟩
  · exact ⟨ZbA, rfl, fun x y hx hy => Znb x y hx hy⟩
  · exact ⟨Zbn, rfl, fun x y hx hy => ZmT x y hx hy⟩
theorem elL_lt {l : List Nat} {b : Bool} {i : Nat} (h : U32 l) : elL l b i < 4294967296 := by
  unfold elL
  split
  · exact h.get i
  · cases b <;> decide
theorem boL_snocL (op a b : Int) (i : Nat) : boL op a b (i + 1) = boL op a b i ++ [bo op (elL (wl a) (decide (a < 0)) i) (elL (wl b) (decide (b < 0)) i)] := boL_snoc op a b i
theorem rsN_lt (b : Bool) : rsN b < 4294967296 := by cases b <;> decide
theorem Zkh (op : Int) (a b : Int) (hop : ¬ (1 ≤ op ∧ op ≤ 3)) : PC C Zb4 [.sptr [.int .i64 op], capZ a, capZ b] (fun o => o = outZ (bitO op a b)) := by
  have hO : bitO op a b = .inr 1 := by unfold bitO; rw [if_neg hop]
  rw [hO]
  have hf := find_no hop
  refine PC.run ZbI ZcU rfl ZcV rfl (rs := [.cell 3 25]) (by rw [ZcW]) (by simp only [List.length_cons, List.length_nil, Nat.reduceAdd, Nat.reduceSub, List.replicate_succ, List.replicate_zero, List.cons_append, List.nil_append]; exact rfl) ?_
  refine ARun.seq (ARun.region ?_)
  refine y_new rfl (Zag rfl rfl rfl rfl) ?_
  refine AOps.nil (ARun.seq (ARun.region ?_))
  refine y_new rfl (Zag rfl rfl rfl rfl) ?_
  refine AOps.nil (ARun.seq (ARun.region ?_))
  refine y_new rfl (Zg2 (kt := 3) (et := 151) (by kernel_rfl) (.inl rfl)) ?_
  refine y_op rfl (Zae rfl rfl rfl rfl rfl rfl) ?_
  refine y_op rfl (ZeU rfl) ?_
  refine y_new rfl (Zay (kt := 3) (et := 151) (.inl rfl) (by kernel_rfl) (by kernel_rfl) rfl rfl rfl rfl rfl) ?_
  refine y_op rfl (Zae rfl rfl rfl rfl rfl rfl) ?_
  refine y_op rfl (ZeU rfl) ?_
  refine y_new rfl (Zay (kt := 3) (et := 151) (.inl rfl) (by kernel_rfl) (by kernel_rfl) rfl rfl rfl rfl rfl) ?_
  refine y_op rfl (Zae rfl rfl rfl rfl rfl rfl) ?_
  refine y_op rfl (ZeU rfl) ?_
  refine y_new rfl (Zay (kt := 3) (et := 151) (.inl rfl) (by kernel_rfl) (by kernel_rfl) rfl rfl rfl rfl rfl) ?_
  refine y_op rfl (q_move rfl) ?_
  refine y_op rfl (q_load rfl rfl rfl rfl) ?_
  refine y_op rfl (ZkW (kt := 3) (et := 151) (by kernel_rfl) (by kernel_rfl) rfl rfl rfl rfl rfl hf) ?_
  refine y_op rfl (q_move rfl) ?_
  refine y_op rfl (Zab rfl rfl) ?_
  refine y_op rfl (Zab rfl rfl) ?_
  refine y_op rfl (Zaa rfl) ?_
  refine y_op rfl (Zaa rfl) ?_
  refine AOps.nil (ARun.seq (ARun.region ?_))
  refine y_op rfl (q_move rfl) ?_
  refine y_gop rfl (g_call rfl rfl (PC.gp (ZaV _ 1))) (fun hg => by cases hg) (fun q hq => by obtain ⟨hq, rfl⟩ := hq; exact ⟨_, _, .same _, rfl, rfl⟩)
theorem Zki (op : Int) (a b : Int) (ha : fitZ a) (hb : fitZ b) (hop : 1 ≤ op ∧ op ≤ 3) : PC C Zb4 [.sptr [.int .i64 op], capZ a, capZ b] (fun o => o = outZ (bitO op a b)) := by
  obtain ⟨f, hf, hfc⟩ := find_op hop.1 hop.2
  have hO : bitO op a b = fitO (bitZ op a b) := by unfold bitO; rw [if_pos hop]
  rw [hO]
  have hla := wl_len a
  have hlb := wl_len b
  have hal : (wl a).length ≤ 1024 := Nat.le_trans hla ha
  have hbl : (wl b).length ≤ 1024 := Nat.le_trans hlb hb
  refine PC.run ZbI ZcU rfl ZcV rfl (rs := [.cell 3 25]) (by rw [ZcW]) (by simp only [List.length_cons, List.length_nil, Nat.reduceAdd, Nat.reduceSub, List.replicate_succ, List.replicate_zero, List.cons_append, List.nil_append]; exact rfl) ?_
  refine ARun.seq (ARun.region ?_)
  refine y_new rfl (Zag rfl rfl rfl rfl) ?_
  refine AOps.nil (ARun.seq (ARun.region ?_))
  refine y_new rfl (Zag rfl rfl rfl rfl) ?_
  refine AOps.nil (ARun.seq (ARun.region ?_))
  refine y_new rfl (Zg2 (kt := 3) (et := 151) (by kernel_rfl) (.inl rfl)) ?_
  refine y_op rfl (Zae rfl rfl rfl rfl rfl rfl) ?_
  refine y_op rfl (ZeU rfl) ?_
  refine y_new rfl (Zay (kt := 3) (et := 151) (.inl rfl) (by kernel_rfl) (by kernel_rfl) rfl rfl rfl rfl rfl) ?_
  refine y_op rfl (Zae rfl rfl rfl rfl rfl rfl) ?_
  refine y_op rfl (ZeU rfl) ?_
  refine y_new rfl (Zay (kt := 3) (et := 151) (.inl rfl) (by kernel_rfl) (by kernel_rfl) rfl rfl rfl rfl rfl) ?_
  refine y_op rfl (Zae rfl rfl rfl rfl rfl rfl) ?_
  refine y_op rfl (ZeU rfl) ?_
  refine y_new rfl (Zay (kt := 3) (et := 151) (.inl rfl) (by kernel_rfl) (by kernel_rfl) rfl rfl rfl rfl rfl) ?_
  refine y_op rfl (q_move rfl) ?_
  refine y_op rfl (q_load rfl rfl rfl rfl) ?_
  refine y_op rfl (ZkW (kt := 3) (et := 151) (by kernel_rfl) (by kernel_rfl) rfl rfl rfl rfl rfl hf) ?_
  refine y_op rfl (q_move rfl) ?_
  refine y_op rfl (Zab rfl rfl) ?_
  refine y_op rfl (Zab rfl rfl) ?_
  refine y_op rfl (Zaa rfl) ?_
  refine y_op rfl (Zaa rfl) ?_
  refine AOps.nil (ARun.seq (ARun.region ?_))
  refine y_op rfl (q_move rfl) ?_
  refine y_op rfl (q_call rfl rfl (need_ok 1)) ?_
  refine AOps.nil (ARun.seq ?_)
  refine ARun.drawnF (n := 8) (fun S : Nat → Bool => _) [(4, 7, 150, [.nilsl, .int .u32 0], some (6, [sln .u32 (wl a), .int .u32 ((rsN (decide (a < 0)) : Nat) : Int)])), (5, 8, 150, [.nilsl, .int .u32 0], some (7, [sln .u32 (wl b), .int .u32 ((rsN (decide (b < 0)) : Nat) : Int)]))] (fun _ => False) (sk := [(4, some 6), (5, some 7)]) mixC rfl rfl (by kernel_rfl) rfl (by kernel_rfl) rfl rfl (fun _ _ _ h => h.elim) ?_
  refine DChG.op rfl (fun _ => Zad rfl rfl rfl rfl rfl) (fun _ => rfl) rfl rfl ?_
  refine DChG.op rfl (fun _ => q_call rfl rfl (Zdb a ha)) (fun _ => rfl) rfl rfl ?_
  refine DChG.op rfl (fun _ => Zad rfl rfl rfl rfl rfl) (fun _ => rfl) rfl rfl ?_
  refine DChG.op rfl (fun _ => q_call rfl rfl (Zdb b hb)) (fun _ => rfl) rfl rfl ?_
  refine .al rfl rfl rfl rfl (fun _ => rfl) rfl rfl rfl ?_
  refine .al rfl rfl rfl rfl (fun _ => rfl) rfl rfl rfl ?_
  refine .sp (j := 4) rfl rfl rfl rfl rfl rfl rfl (fun _ => rfl) rfl rfl rfl (by kernel_rfl) ?_
  refine .sp (j := 5) rfl rfl rfl rfl rfl rfl rfl (fun _ => rfl) rfl rfl rfl (by kernel_rfl) ?_
  refine .nil (fun hG => AOps.fixed (as' := [(4, 7, 150, [sln .u32 (wl a), .int .u32 ((rsN (decide (a < 0)) : Nat) : Int)]), (5, 8, 150, [sln .u32 (wl b), .int .u32 ((rsN (decide (b < 0)) : Nat) : Int)])]) rfl ?_)
  refine AOps.nil (ARun.seq (ARun.seq (ARun.region ?_)))
  refine y_op rfl (q_fldS rfl rfl rfl (by decide)) ?_
  refine y_op rfl (q_load rfl rfl rfl rfl) ?_
  refine y_op rfl (Zaf rfl rfl) ?_
  refine y_op rfl (q_fldS rfl rfl rfl (by decide)) ?_
  refine y_op rfl (q_load rfl rfl rfl rfl) ?_
  refine y_op rfl (Zaf rfl rfl) ?_
  refine y_op rfl (q_maxR rfl rfl nmax) ?_
  refine y_op rfl (q_move rfl) ?_
  refine AOps.nil (ARun.block ?_)
  refine ARun.loopI (S := Nat × Heap) (fun σ : Nat × Heap => [(9, .any), (37, .any), (38, .any), (39, .any), (40, .any), (41, .any), (42, .any), (43, .any), (44, .any), (45, .any), (46, .any), (47, .any), (48, .any), (49, .any), (50, .any), (51, .any), (52, .any), (36, .int .i64 (σ.1 : Int))]) (fun σ : Nat × Heap => some ⟨[.bool false, .nilsl], ZcL, 1, true, none⟩ :: some ⟨[growD (3 + σ.2.length) (nts .u32 (boL op a b σ.1)), .int .u32 0], Zbc, 1, true, none⟩ :: mapO bitM :: growT σ.2 Zap (nts .u32 (boL op a b σ.1))) (fun σ : Nat × Heap => σ.1 ≤ max (wl a).length (wl b).length) (fun σ : Nat × Heap => max (wl a).length (wl b).length - σ.1) ((0, [])) ?_ ?_ ?_ ?_
  · exact Nat.zero_le _
  · (repeat' first | exact envLe_nil | apply envLe_any | apply envLe_same)
  · rfl
  rintro ⟨i, J⟩ hinv ih
  dsimp only at hinv ih ⊢
  have hnl : (nts .u32 (boL op a b i)).length = i := by rw [nts_length, boL_len]
  refine ARun.seq (ARun.region ?_)
  refine y_op rfl (q_int rfl rfl rfl) ?_
  refine AOps.nil (ARun.seq ?_)
  refine ARun.ite rfl (fun h => ?_) (fun h => ?_)
  · skip
    refine ARun.skip (ARun.seq (ARun.block (ARun.seq (ARun.region ?_))))
    refine y_op rfl (q_move rfl) ?_
    refine y_op rfl (Zaa rfl) ?_
    refine AOps.nil ?_
    refine ARun.drawnP 11 (fun _ => False) mixC rfl rfl (by kernel_rfl) (fun _ _ h => h.elim) ?_
    refine .op rfl (q_fldP rfl rfl rfl (by decide)) ?_
    refine .op rfl (Zai rfl rfl rfl rfl rfl) ?_
    refine .op rfl (q_move rfl) ?_
    refine .op rfl (Zad rfl rfl rfl rfl rfl) ?_
    refine .op rfl (q_move rfl) ?_
    refine .op rfl (q_call rfl rfl (Zmq (wl a) (decide (a < 0)) i)) ?_
    refine .op rfl (Zad rfl rfl rfl rfl rfl) ?_
    refine .op rfl (q_move rfl) ?_
    refine .op rfl (q_call rfl rfl (Zmq (wl b) (decide (b < 0)) i)) ?_
    refine .op rfl (Zmr rfl rfl (hfc (elL (wl a) (decide (a < 0)) i) (elL (wl b) (decide (b < 0)) i) (elL_lt (U32_wl a)) (elL_lt (U32_wl b)))) ?_
    refine .op rfl (Zan rfl rfl rfl rfl rfl rfl rfl rfl rfl rfl rfl (by decide) (by decide) rfl) ?_
    refine .nil (fun hG => ?_)
    refine Zne (dx := .int .u32 ((bo op (elL (wl a) (decide (a < 0)) i) (elL (wl b) (decide (b < 0)) i) : Nat) : Int)) rfl rfl rfl rfl rfl rfl rfl rfl rfl (by show (_ + 1) * 4 ≤ _; omega) (by omega) (fun J' => ?_)
    refine y_op rfl (q_fldP rfl rfl rfl (by decide)) ?_
    refine y_new rfl (Zah rfl rfl rfl (okCell_grow (B := [_, _, _]) rfl) rfl rfl (Nat.le_of_ble_eq_true rfl) rfl) ?_
    refine AOps.nil (ARun.inBlock (ARun.region ?_))
    refine y_op rfl (q_add rfl rfl (nadd1_i64 (by omega))) ?_
    refine y_op rfl (q_move rfl) ?_
    refine AOps.nil ?_
    rw [nts_snoc, ← boL_snocL]
    refine ARun.again (ih ((i + 1, J')) ?_ ?_) ?_ ?_
    · (dsimp only; omega)
    · (dsimp only; omega)
    · (repeat' first | exact envLe_nil | apply envLe_any | apply envLe_same)
    · rfl
  · skip
    obtain rfl : i = max (wl a).length (wl b).length := by omega
    have hsl : (sb op (decide (a < 0)) (decide (b < 0))) = sb op (decide (a < 0)) (decide (b < 0)) := rfl
    have hrs : PC C f [wr0, .int .u32 ((rsN (decide (a < 0)) : Nat) : Int), .int .u32 ((rsN (decide (b < 0)) : Nat) : Int)] (fun o => o = .ret (.int .u32 ((rsN (sb op (decide (a < 0)) (decide (b < 0))) : Nat) : Int))) := by
      have h := hfc (rsN (decide (a < 0))) (rsN (decide (b < 0))) (rsN_lt _) (rsN_lt _)
      rw [rsN_bo] at h
      exact h
    have hI : PC C Zbr [wrD (boL op a b (max (wl a).length (wl b).length)) (sb op (decide (a < 0)) (decide (b < 0)))] (fun o => (fitZ (bitZ op a b) ∧ o = .ret (intD (bitZ op a b))) ∨ ∃ p, (¬ fitZ (bitZ op a b) ∧ p = failW 2) ∧ o = .pan p) := by
      have h := Zkg (boL op a b (max (wl a).length (wl b).length)) (U32_boL _ _ _ _) (sb op (decide (a < 0)) (decide (b < 0))) (by rw [boL_len]; omega)
      rw [ivZ_boL, bitN_wl rfl] at h
      refine h.mono fun o ho => ?_
      by_cases hfit : fitZ (bitZ op a b)
      · rw [fitO_t hfit] at ho; exact .inl ⟨hfit, ho⟩
      · rw [fitO_f hfit] at ho; exact .inr ⟨_, ⟨hfit, rfl⟩, ho⟩
    refine ARun.exit rfl ?_
    refine ARun.seq (ARun.region ?_)
    refine y_op rfl (q_move rfl) ?_
    refine y_op rfl (q_fldS rfl rfl rfl (by decide)) ?_
    refine y_op rfl (q_load rfl rfl rfl rfl) ?_
    refine y_op rfl (q_fldS rfl rfl rfl (by decide)) ?_
    refine y_op rfl (q_load rfl rfl rfl rfl) ?_
    refine y_op rfl (Zmr rfl rfl hrs) ?_
    refine y_op rfl (q_fldP rfl rfl rfl (by decide)) ?_
    refine y_new rfl (Zah rfl rfl rfl rfl rfl rfl (Nat.le_of_ble_eq_true rfl) rfl) ?_
    refine AOps.nil (ARun.seq (ARun.region ?_))
    refine y_op rfl (Zae rfl rfl rfl rfl rfl rfl) ?_
    refine AOps.growEndA 60 rfl (pures_nts _) (fun J' => ?_)
    rw [sln_len]
    refine y_gop rfl (g_call rfl rfl hI) (fun hg => ?_) (fun q hq => by obtain ⟨hq, rfl⟩ := hq; exact ⟨_, _, .same _, rfl, by rw [fitO_f hq]; rfl⟩)
    rw [fitO_t hg]
    refine y_op rfl (q_call rfl rfl (Zb2 (bitZ op a b) hg)) ?_
    refine y_new rfl (Zac rfl rfl rfl rfl rfl rfl rfl rfl (Nat.le_of_ble_eq_true rfl) rfl) ?_
    refine AOps.nil ?_
    refine ARun.ret ?_
    refine ⟨_, _, _, ResR.cellA rfl rfl rfl rfl rfl rfl .nil, .cons (.same _) .nil, rfl, ?_⟩
    rfl
end Go.V
namespace Go.V
end Go.V
set_option maxHeartbeats 4000000
set_option maxRecDepth 100000
set_option synthInstance.maxSize 100000
set_option synthInstance.maxHeartbeats 2000000
namespace Go.V
open Go.RowKit Go.Proofs
end Go.V
set_option maxHeartbeats 8000000
set_option maxRecDepth 100000
set_option synthInstance.maxSize 100000
set_option synthInstance.maxHeartbeats 2000000
namespace Go.V
open Go.RowKit Go.Proofs
end Go.V
set_option maxHeartbeats 4000000
set_option maxRecDepth 100000
set_option synthInstance.maxSize 100000
set_option synthInstance.maxHeartbeats 2000000
namespace Go.V
open Go.RowKit Go.Proofs
theorem Zms (d1 d2 : Bool × List Nat) (h1 : U32 d1.2) (h2 : U32 d2.2) (op : Int) : PC C Ze2 [intA d1.1 d1.2, intA d2.1 d2.2, .int .i64 op] (fun o => o = .ret (.tup [intD (resZ ([d1, d2].all okI) (bitO op (valI d1) (valI d2))).1, .int .i64 (resZ ([d1, d2].all okI) (bitO op (valI d1) (valI d2))).2])) := by
  refine PC.run ZdR Zif rfl Zig rfl (rs := [.cell 6 25, .tmp 7]) (by rw [Zih]) (by simp only [List.length_cons, List.length_nil, Nat.reduceAdd, Nat.reduceSub, List.replicate_succ, List.replicate_zero, List.cons_append, List.nil_append]; exact rfl) ?_
  refine ARun.seq (ARun.region ?_)
  refine y_op rfl (q_boxF rfl rfl rfl rfl) ?_
  refine y_op rfl (q_boxF rfl rfl rfl rfl) ?_
  refine y_op rfl (q_boxF rfl rfl rfl rfl) ?_
  refine y_new rfl (Zag rfl rfl rfl rfl) ?_
  refine y_op rfl (Zaa rfl) ?_
  refine AOps.nil (ARun.seq (ARun.region ?_))
  refine y_op rfl (Zcf rfl) ?_
  refine y_op rfl (Zad rfl rfl rfl rfl rfl) ?_
  refine y_op rfl (Zad rfl rfl rfl rfl rfl) ?_
  refine y_op rfl (Zan rfl rfl rfl rfl rfl rfl rfl rfl rfl rfl rfl (by decide) (by decide) rfl) ?_
  refine y_op rfl (q_call rfl rfl (Zby [d1, d2] 2 rfl Zb4 [.sptr [.int .i64 op], .sptr [.bool d1.1, sln .u32 d1.2], .sptr [.bool d2.1, sln .u32 d2.2]] rfl (bitO op (valI d1) (valI d2)) (fun h => by obtain ⟨a, b, rfl, fa, rfl, fb⟩ := okI2 h1 h2 h; rw [valI_int, valI_int]; exact (Decidable.em (1 ≤ op ∧ op ≤ 3)).elim (Zki op a b fa fb) (Zkh op a b)))) ?_
  refine y_op rfl (Zab rfl rfl) ?_
  refine y_op rfl (Zab rfl rfl) ?_
  refine y_new rfl (Zac rfl rfl rfl rfl rfl rfl rfl rfl (Nat.le_of_ble_eq_true rfl) rfl) ?_
  refine y_op rfl (Zaa rfl) ?_
  refine AOps.nil ?_
  refine ARun.ret ?_
  refine ⟨_, _, _, ResR.cellA rfl rfl rfl rfl rfl rfl (.tmp rfl .nil), .cons (.same _) (.cons (.same _) .nil), rfl, ?_⟩
  rfl
theorem ZlL (a : Int) (ha : fitZ a) : PC C Zd9 [capZ a] (fun o => o = outZ (fitO (-a - 1))) := by
  have hs : PC C Zgs [intD (-a), intD (-1)] (fun o => (fitZ (-a + -1) ∧ o = .ret (intD (-a + -1))) ∨ ∃ p, (¬ fitZ (-a + -1) ∧ p = failW 2) ∧ o = .pan p) :=
    (Zbf (-a) (-1) (fitZ_neg ha) (fit_small (by decide))).mono fun o ho => ho.imp id (fun ⟨x, y⟩ => ⟨_, ⟨x, rfl⟩, y⟩)
  rw [Int.sub_eq_add_neg]
  refine PC.run Zdr ZhB rfl ZhC rfl (rs := [.cell 1 25]) (by rw [ZhD]) (by simp only [List.length_cons, List.length_nil, Nat.reduceAdd, Nat.reduceSub, List.replicate_succ, List.replicate_zero, List.cons_append, List.nil_append]; exact rfl) ?_
  refine ARun.seq (ARun.region ?_)
  refine y_new rfl (Zag rfl rfl rfl rfl) ?_
  refine AOps.nil (ARun.seq (ARun.region ?_))
  refine y_op rfl (Zad rfl rfl rfl rfl rfl) ?_
  refine y_op rfl (q_call rfl rfl (Zbx a)) ?_
  refine y_op rfl (q_call rfl rfl (Zal (-1) (by decide) (by decide))) ?_
  refine y_gop rfl (g_call rfl rfl hs) (fun hg => ?_) (fun q hq => by obtain ⟨hq, rfl⟩ := hq; exact ⟨_, _, .same _, rfl, by rw [fitO_f hq]; rfl⟩)
  rw [fitO_t hg]
  refine y_op rfl (q_call rfl rfl (Zb2 (-a + -1) hg)) ?_
  refine y_new rfl (Zac rfl rfl rfl rfl rfl rfl rfl rfl (Nat.le_of_ble_eq_true rfl) rfl) ?_
  refine AOps.nil ?_
  refine ARun.ret ?_
  refine ⟨_, _, _, ResR.cellA rfl rfl rfl rfl rfl rfl .nil, .cons (.same _) .nil, rfl, ?_⟩
  rfl
theorem ZmU (d : Bool × List Nat) (hd : U32 d.2) : PC C Zgk [intA d.1 d.2] (fun o => o = .ret (.tup [intD (resZ ([d].all okI) (fitO (-valI d - 1))).1, .int .i64 (resZ ([d].all okI) (fitO (-valI d - 1))).2])) := by
  refine PC.run Ze3 Zjb rfl Zjc rfl (rs := [.cell 2 25, .tmp 3]) (by rw [Zjd]) (by simp only [List.length_cons, List.length_nil, Nat.reduceAdd, Nat.reduceSub, List.replicate_succ, List.replicate_zero, List.cons_append, List.nil_append]; exact rfl) ?_
  refine ARun.seq (ARun.region ?_)
  refine y_op rfl (q_boxF rfl rfl rfl rfl) ?_
  refine y_new rfl (Zag rfl rfl rfl rfl) ?_
  refine y_op rfl (Zaa rfl) ?_
  refine AOps.nil (ARun.seq (ARun.region ?_))
  refine y_op rfl (Zcf rfl) ?_
  refine y_op rfl (Zad rfl rfl rfl rfl rfl) ?_
  refine y_op rfl (Zan rfl rfl rfl rfl rfl rfl rfl rfl rfl rfl rfl (by decide) (by decide) rfl) ?_
  refine y_op rfl (q_call rfl rfl (Zby [d] 1 rfl Zd9 [.sptr [.bool d.1, sln .u32 d.2]] rfl (fitO (-valI d - 1)) (fun h => by obtain ⟨x, rfl, f1⟩ := okI_int hd (by simpa using h); rw [valI_int]; exact ZlL x f1))) ?_
  refine y_op rfl (Zab rfl rfl) ?_
  refine y_op rfl (Zab rfl rfl) ?_
  refine y_new rfl (Zac rfl rfl rfl rfl rfl rfl rfl rfl (Nat.le_of_ble_eq_true rfl) rfl) ?_
  refine y_op rfl (Zaa rfl) ?_
  refine AOps.nil ?_
  refine ARun.ret ?_
  refine ⟨_, _, _, ResR.cellA rfl rfl rfl rfl rfl rfl (.tmp rfl .nil), .cons (.same _) (.cons (.same _) .nil), rfl, ?_⟩
  rfl
end Go.V
