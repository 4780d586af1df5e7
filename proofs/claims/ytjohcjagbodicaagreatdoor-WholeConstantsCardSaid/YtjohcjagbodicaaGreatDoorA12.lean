/- A part of the proof: abstract values, rules for the steps of the program's form, and contracts of its functions, each proved; no condition. -/
import Derived.Test.YtjohcjagbodicaaGreatDoorA11
set_option linter.unusedVariables false
set_option linter.unusedSimpArgs false
set_option synthInstance.maxSize 100000
set_option synthInstance.maxHeartbeats 2000000
namespace Go.V
open Go.RowKit Go.Proofs
abbrev czs (z : Int) : List D := [.bool (decide (z < 0)), numD z.natAbs]
theorem fit_nat {n m : Nat} (h : n ≤ m) (hm : (lim m).length ≤ 1024) : fitZ (n : Int) := by unfold fitZ; rw [Int.natAbs_natCast]; exact Nat.le_trans (ln_mono h) hm
theorem sgn_xor (a : Int) (z : Int) : sgnd (!(decide (z < 0) == decide (a < 0))) z.natAbs = sgnd (decide (a < 0)) 1 * z := by
  by_cases h1 : z < 0 <;> by_cases h2 : a < 0
  · rw [decide_eq_true h1, decide_eq_true h2]; simp only [beq_self_eq_true, Bool.not_true, sgnd, cond_false, cond_true]; omega
  · rw [decide_eq_true h1, decide_eq_false h2]; simp only [show (!(true == false)) = true from rfl, sgnd, cond_false, cond_true]; omega
  · rw [decide_eq_false h1, decide_eq_true h2]; simp only [show (!(false == true)) = true from rfl, sgnd, cond_false, cond_true]; omega
  rw [decide_eq_false h1, decide_eq_false h2]; simp only [beq_self_eq_true, Bool.not_true, sgnd, cond_false]; omega
theorem cmpZ_geq {x y : Int} (h : decide (0 ≤ cmpZ x y) = true) : y ≤ x := by
  have h := of_decide_eq_true h
  unfold cmpZ at h; split at h <;> omega
theorem cmpZ_ngeq {x y : Int} (h : decide (0 ≤ cmpZ x y) = false) : x < y := by
  have h := of_decide_eq_false h
  unfold cmpZ at h; split at h
  · assumption
  exfalso; split at h <;> omega
theorem EuI.fin {a b M : Nat} (ha : a ≤ M) (hb : b ≤ M) : ∀ (s r : Nat) (x y u v : Int), EuI a b M r s x y u v → (eu a b 1 0 0 1).2.2.1.natAbs ≤ M := by
  intro s
  induction s using Nat.strongRecOn with
  | _ s ih =>
    intro r x y u v h
    rcases Nat.eq_zero_or_pos s with h0 | h0
    · subst h0
      have := h.f
      rw [eu_zero] at this
      rw [← this]; exact h.hy
    exact ih _ (Nat.mod_lt _ h0) _ _ _ _ _ (h.step h0 ha hb).1
theorem gY_fit {a b : Int} (ha : fitZ a) (hb : fitZ b) (h0 : b ≠ 0) : fitZ (gY a b) := by
  have h := EuI.fin (a := a.natAbs) (b := b.natAbs) (M := max a.natAbs b.natAbs) (by omega) (by omega) _ _ _ _ _ _ ⟨Eu.init _ _, rfl, by omega, by omega, by show 1 ≤ _; omega, Nat.zero_le _, Nat.zero_le _, by show 1 ≤ _; omega⟩
  have e : (gY a b).natAbs = (eu a.natAbs b.natAbs 1 0 0 1).2.2.1.natAbs := by unfold gY; rw [Int.natAbs_mul, sgnd_abs, Nat.one_mul]
  unfold fitZ
  rw [e]
  refine Nat.le_trans (ln_mono h) ?_
  rcases Nat.le_total a.natAbs b.natAbs with h | h
  · rw [Nat.max_eq_right h]; exact hb
  rw [Nat.max_eq_left h]; exact ha
structure GL (a b x y : Int) : Prop where
  e : a * x + b * y = (gG a b : Int)
  m : x % (gQ a b : Int) = gX a b % (gQ a b : Int)
  lo : -(gQ a b : Int) ≤ x
  hi : x ≤ gQ a b
  fy : fitZ y
theorem ZnX (a b : Int) (ha : fitZ a) (hb : fitZ b) : PC C Zk6 [intD a, intD b] (fun o => o = .ret (.tup [intD (gG a b), intD (gcdX a b), intD (gcdY a b)])) := by
  refine PC.rn Zfh ZjO ZjP (rs := [.cell 4 25, .cell 5 25, .cell 6 25]) (by rw [ZjQ]) ?_
  refine ARun.seq (ARun.region ?_); refine xb ?_; refine xb ?_
  refine y_new rfl (Zag rfl rfl rfl rfl) ?_
  refine y_new rfl (Zag rfl rfl rfl rfl) ?_
  refine y_new rfl (Zag rfl rfl rfl rfl) ?_
  refine AOps.nil (ARun.seq (ARun.seq (ARun.region ?_))); refine xf ?_; refine xl ?_; refine xN ?_; refine xi ?_; refine AOps.nil ?_
  refine ARun.cond rfl (fun h => ?_) (fun h => ?_)
  · skip
    have hb0 : b = 0 := by
      have h : (lim b.natAbs).length = 0 := by simpa using h
      apply Classical.byContradiction
      intro hn
      have := ln_pos.2 (show b.natAbs ≠ 0 by omega)
      omega
    subst hb0
    refine ARun.seq ?_
    refine ARun.drawnG (n := 9) (fun S : Nat → Bool => [bif S 7 then cellZ (a.natAbs : Int) else cell0, bif S 8 then cellZ a.sign else cell0, cell0]) [] (fun _ => False) (sk := []) mixC rfl rfl (by kernel_rfl) rfl (by kernel_rfl) rfl (fun _ _ _ h => h.elim) ?_
    refine DChG.op rfl (fun _ => q_fldS rfl rfl rfl (by decide)) (fun _ => rfl) rfl rfl ?_
    refine DChG.opC rfl (fun S hn hd hc => OpQ.pre (H1 := [bif false then cellZ (a.natAbs : Int) else cell0, bif false then cellZ a.sign else cell0, cell0]) (by simp only [(clF hc hn (by kernel_rfl) : S 7 = false), (clF hc hn (by kernel_rfl) : S 8 = false)]) (q_load rfl rfl rfl rfl)) (fun _ => rfl) rfl rfl ?_
    refine DChG.op rfl (fun _ => q_call rfl rfl (Zam false a.natAbs)) (fun _ => rfl) rfl rfl ?_
    refine DChG.opC rfl (fun S hn hd hc => OpQ.pre (H1 := [bif S 7 then cellZ (a.natAbs : Int) else cell0, bif false then cellZ a.sign else cell0, cell0]) (by simp only [(clF hc hn (by kernel_rfl) : S 8 = false)]) (Zdn rfl rfl rfl rfl rfl)) (fun _ => rfl) rfl rfl ?_
    refine DChG.op rfl (fun _ => q_call rfl rfl (Znp a)) (fun _ => rfl) rfl rfl ?_
    refine DChG.op rfl (fun _ => q_call rfl rfl (Zap a.sign (by have := Int.sign_trichotomy a; omega) (by have := Int.sign_trichotomy a; omega))) (fun _ => rfl) rfl rfl ?_
    refine DChG.op rfl (fun _ => q_call rfl rfl (Zap 0 (by decide) (by decide))) (fun _ => rfl) rfl rfl ?_
    refine DChG.stC rfl (fun S hn hd hc => OpN.both (H1 := [bif false then cellZ (a.natAbs : Int) else cell0, bif false then cellZ a.sign else cell0, cell0]) (H3 := [bif true then cellZ (a.natAbs : Int) else cell0, bif false then cellZ a.sign else cell0, cell0]) (by simp only [hn, (clF hc hn (by kernel_rfl) : S 8 = false)]) (by show [bif true then cellZ (a.natAbs : Int) else cell0, bif S 8 then cellZ a.sign else cell0, cell0] = _; simp only [(clF hc hn (by kernel_rfl) : S 8 = false)]) (Zaa rfl rfl rfl rfl rfl rfl rfl rfl (Nat.le_of_ble_eq_true rfl) rfl)) rfl rfl ?_
    refine DChG.stC rfl (fun S hn hd hc => OpN.both (H1 := [bif true then cellZ (a.natAbs : Int) else cell0, bif false then cellZ a.sign else cell0, cell0]) (H3 := [bif true then cellZ (a.natAbs : Int) else cell0, bif true then cellZ a.sign else cell0, cell0]) (by simp only [hn, (hd 7 (by kernel_rfl) : S 7 = true)]) (by show [bif S 7 then cellZ (a.natAbs : Int) else cell0, bif true then cellZ a.sign else cell0, cell0] = _; simp only [(hd 7 (by kernel_rfl) : S 7 = true)]) (Zaa rfl rfl rfl rfl rfl rfl rfl rfl (Nat.le_of_ble_eq_true rfl) rfl)) rfl rfl ?_
    refine .nil (fun hG => AOps.fin (n := 3) (as' := []) (H' := [cellZ (a.natAbs : Int), cellZ a.sign, cell0]) rfl rfl rfl ?_)
    refine y_new rfl (Zaa rfl rfl rfl rfl rfl rfl rfl rfl (Nat.le_of_ble_eq_true rfl) rfl) ?_
    refine AOps.nil ?_
    refine ARun.ret ?_
    refine ⟨_, _, _, ResR.cellA rfl rfl rfl rfl rfl rfl (ResR.cellA rfl rfl rfl rfl rfl rfl (ResR.cellA rfl rfl rfl rfl rfl rfl .nil)), .cons (.same _) (.cons (.same _) (.cons (.same _) .nil)), rfl, ?_⟩
    unfold gcdX gcdY gG
    rw [if_pos rfl, if_pos rfl, show (0 : Int).natAbs = 0 from rfl, Nat.gcd_zero_right]; rfl
  have hb0 : b ≠ 0 := by
    intro hn
    subst hn
    rw [show (0 : Int).natAbs = 0 from rfl, lim_zero] at h
    cases h
  obtain ⟨eg, ee, eq, ep, ex⟩ := eu_end (a := a.natAbs) (b := b.natAbs) (by omega)
  have hx1 := Zam (!(decide ((eu a.natAbs b.natAbs 1 0 0 1).2.1 < 0) == decide (a < 0))) (eu a.natAbs b.natAbs 1 0 0 1).2.1.natAbs
  rw [sgn_xor] at hx1
  have hy1 := Zam (!(decide ((eu a.natAbs b.natAbs 1 0 0 1).2.2.1 < 0) == decide (b < 0))) (eu a.natAbs b.natAbs 1 0 0 1).2.2.1.natAbs
  rw [sgn_xor] at hy1
  refine ARun.skip (ARun.seq (ARun.region ?_)); refine xf ?_; refine xl ?_; refine xf ?_; refine xl ?_
  refine xc rfl rfl (ZlA a.natAbs b.natAbs ha hb (by omega)) ?_
  refine xm ?_; refine xe ?_; refine xe ?_; refine xe ?_; refine xe ?_; refine xe ?_; refine xa ?_
  refine y_new rfl (Zaa rfl rfl rfl rfl rfl rfl rfl rfl (Nat.le_of_ble_eq_true rfl) rfl) ?_
  refine y_new rfl (Zaa rfl rfl rfl rfl rfl rfl rfl rfl (Nat.le_of_ble_eq_true rfl) rfl) ?_
  refine xa ?_; refine xa ?_; refine AOps.nil (ARun.seq (ARun.region ?_))
  refine y_op rfl (q_fldP rfl rfl rfl (by decide)) ?_
  refine y_op rfl (Zac rfl rfl rfl rfl rfl) ?_
  refine xf ?_; refine xl ?_
  refine y_op rfl (Zbt rfl rfl rfl) ?_
  refine y_op rfl (q_fldP rfl rfl rfl (by decide)) ?_
  refine y_op rfl (Zac rfl rfl rfl rfl rfl) ?_
  refine xc rfl rfl (hx1) ?_
  refine y_new rfl (Zaa rfl rfl rfl rfl rfl rfl rfl rfl (Nat.le_of_ble_eq_true rfl) rfl) ?_
  refine AOps.nil (ARun.seq (ARun.region ?_))
  refine y_op rfl (q_fldP rfl rfl rfl (by decide)) ?_
  refine y_op rfl (Zac rfl rfl rfl rfl rfl) ?_
  refine xf ?_; refine xl ?_
  refine y_op rfl (Zbt rfl rfl rfl) ?_
  refine y_op rfl (q_fldP rfl rfl rfl (by decide)) ?_
  refine y_op rfl (Zac rfl rfl rfl rfl rfl) ?_
  refine xc rfl rfl (hy1) ?_
  refine y_new rfl (Zaa rfl rfl rfl rfl rfl rfl rfl rfl (Nat.le_of_ble_eq_true rfl) rfl) ?_
  refine AOps.nil (ARun.seq ?_)
  refine ARun.drawnG (n := 12) (fun S : Nat → Bool => [cell0, cellZ (gX a b), cellZ (gY a b)]) [(9, 10, 25, [.bool false, .nilsl], some (11, czs (gQ a b : Int))), (10, 11, 25, [.bool false, .nilsl], none)] (fun _ => False) (sk := [(9, some 11), (10, none)]) mixC rfl rfl (by kernel_rfl) rfl (by kernel_rfl) rfl (fun _ _ _ h => h.elim) ?_
  refine DChG.op rfl (fun _ => q_move rfl) (fun _ => rfl) rfl rfl ?_
  refine DChG.op rfl (fun _ => q_call rfl rfl (Zam false (gQ a b))) (fun _ => rfl) rfl rfl ?_
  refine DChG.op rfl (fun _ => q_fldS rfl rfl rfl (by decide)) (fun _ => rfl) rfl rfl ?_
  refine DChG.op rfl (fun _ => q_load rfl rfl rfl rfl) (fun _ => rfl) rfl rfl ?_
  refine DChG.op rfl (fun _ => q_fldS rfl rfl rfl (by decide)) (fun _ => rfl) rfl rfl ?_
  refine DChG.op rfl (fun _ => q_load rfl rfl rfl rfl) (fun _ => rfl) rfl rfl ?_
  refine DChG.op rfl (fun _ => Zbt rfl rfl rfl) (fun _ => rfl) rfl rfl ?_
  refine DChG.op rfl (fun _ => q_move rfl) (fun _ => rfl) rfl rfl ?_
  refine DChG.op rfl (fun _ => q_call rfl rfl (Zam (!(decide (a < 0) == decide (b < 0))) (gP a b))) (fun _ => rfl) rfl rfl ?_
  refine .al rfl rfl rfl rfl (fun _ => rfl) rfl rfl rfl ?_
  refine .al rfl rfl rfl rfl (fun _ => rfl) rfl rfl rfl ?_
  refine .sp (j := 9) rfl rfl rfl rfl rfl rfl rfl (fun _ => rfl) rfl rfl rfl (by kernel_rfl) ?_
  refine .nil (fun hG => AOps.fin (n := 3) (as' := [(9, 10, 25, czs (gQ a b : Int)), (10, 11, 25, [.bool false, .nilsl])]) (H' := [cell0, cellZ (gX a b), cellZ (gY a b), cellZ (gQ a b : Int), cell0]) rfl rfl rfl ?_)
  refine y_new rfl (Zaa rfl rfl rfl rfl rfl rfl rfl rfl (Nat.le_of_ble_eq_true rfl) rfl) ?_
  refine AOps.nil (ARun.seq (ARun.block ?_))
  have hq0 := gQ_pos (a := a) hb0
  have hqb := gQ_le (a := a) hb0
  have hXq := gX_abs (a := a) hb0
  have hbk := gBk_eq (a := a) hb0
  have fq : fitZ (gQ a b : Int) := fit_nat hqb hb
  have fbk : fitZ (gBk a b) := by unfold fitZ gBk; rw [sgnd_abs]; exact Nat.le_trans (ln_mono (gP_le (a := a) hb0)) ha
  have fx : ∀ x : Int, -(gQ a b : Int) ≤ x → x ≤ gQ a b → fitZ x := fun x h1 h2 => fit_mono (y := b) (by omega) hb
  refine ARun.loopI (S := Int × Int) (fun σ : Int × Int => [(59, .any), (60, .any), (61, .any), (62, .any), (63, .any), (64, .any), (65, .any), (66, .any), (67, .any)]) (fun σ : Int × Int => [cell0, cellZ σ.1, cellZ σ.2, cellZ (gQ a b : Int), cellZ (gBk a b)]) (fun σ : Int × Int => GL a b σ.1 σ.2) (fun σ : Int × Int => (-σ.1).toNat) ((gX a b, gY a b)) ?_ ?_ ?_ ?_
  · exact ⟨gXY hb0, rfl, by show -(gQ a b : Int) ≤ gX a b; omega, by show gX a b ≤ gQ a b; omega, gY_fit ha hb hb0⟩
  · (repeat' first | exact envLe_nil | apply envLe_any | apply envLe_same)
  · rfl
  rintro ⟨x, y⟩ hinv ih
  dsimp only at hinv ih ⊢
  refine ARun.seq (ARun.seq (ARun.region ?_))
  refine y_op rfl (q_fldP rfl rfl rfl (by decide)) ?_
  refine y_op rfl (Zac rfl rfl rfl rfl rfl) ?_
  refine AOps.nil ?_
  refine ARun.cond rfl (fun hx => ?_) (fun hx => ?_)
  · skip
    have hx := of_decide_eq_true hx
    have l1 := hinv.lo
    have e2 : a * (x + (gQ a b : Int)) + b * (y + -gBk a b) = (gG a b : Int) := by
      rw [Int.mul_add, Int.mul_add, hbk, Int.mul_neg]; have := hinv.e; omega
    have fy2 : fitZ (y + -gBk a b) := fit_max ha (ZlB hb0 e2 (by omega) (by omega))
    refine ARun.skip (ARun.block ?_)
    refine ARun.drawnG (n := 8) (fun S : Nat → Bool => [cell0, bif S 7 then cellZ (x + (gQ a b : Int)) else cellZ x, cellZ y, cellZ (gQ a b : Int), cellZ (gBk a b)]) [] (fun _ => False) (sk := []) mixC rfl rfl (by kernel_rfl) rfl (by kernel_rfl) rfl (fun _ _ _ h => h.elim) ?_
    refine DChG.opC rfl (fun S hn hd hc => OpQ.pre (H1 := [cell0, bif false then cellZ (x + (gQ a b : Int)) else cellZ x, cellZ y, cellZ (gQ a b : Int), cellZ (gBk a b)]) (by simp only [(clF hc hn (by kernel_rfl) : S 7 = false)]) (Zab rfl rfl rfl rfl rfl rfl)) (fun _ => rfl) rfl rfl ?_
    refine DChG.opC rfl (fun S hn hd hc => OpQ.pre (H1 := [cell0, bif false then cellZ (x + (gQ a b : Int)) else cellZ x, cellZ y, cellZ (gQ a b : Int), cellZ (gBk a b)]) (by simp only [(clF hc hn (by kernel_rfl) : S 7 = false)]) (Zab rfl rfl rfl rfl rfl rfl)) (fun _ => rfl) rfl rfl ?_
    refine DChG.op rfl (fun _ => q_call rfl rfl ((Zb4 x (gQ a b : Int) (fx x l1 hinv.hi) fq).mono (fun o ho => (ho.resolve_right (fun h => h.1 (fx _ (by omega) (by omega)))).2))) (fun _ => rfl) rfl rfl ?_
    refine DChG.op rfl (fun _ => Zab rfl rfl rfl rfl rfl rfl) (fun _ => rfl) rfl rfl ?_
    refine DChG.op rfl (fun _ => Zab rfl rfl rfl rfl rfl rfl) (fun _ => rfl) rfl rfl ?_
    refine DChG.op rfl (fun _ => q_call rfl rfl (Zdq (gBk a b))) (fun _ => rfl) rfl rfl ?_
    refine DChG.op rfl (fun _ => q_call rfl rfl ((Zb4 y (-gBk a b) hinv.fy (fitZ_neg fbk)).mono (fun o ho => (ho.resolve_right (fun h => h.1 fy2)).2))) (fun _ => rfl) rfl rfl ?_
    refine DChG.stC rfl (fun S hn hd hc => OpN.both (H1 := [cell0, bif false then cellZ (x + (gQ a b : Int)) else cellZ x, cellZ y, cellZ (gQ a b : Int), cellZ (gBk a b)]) (H3 := [cell0, bif true then cellZ (x + (gQ a b : Int)) else cellZ x, cellZ y, cellZ (gQ a b : Int), cellZ (gBk a b)]) (by simp only [hn]) rfl (Zaa rfl rfl rfl rfl rfl rfl rfl rfl (Nat.le_of_ble_eq_true rfl) rfl)) rfl rfl ?_
    refine .nil (fun hG => AOps.fin (n := 5) (as' := []) (H' := [cell0, cellZ (x + (gQ a b : Int)), cellZ y, cellZ (gQ a b : Int), cellZ (gBk a b)]) rfl rfl rfl ?_)
    refine y_new rfl (Zaa rfl rfl rfl rfl rfl rfl rfl rfl (Nat.le_of_ble_eq_true rfl) rfl) ?_
    refine AOps.nil (ARun.inBlock ?_)
    refine ARun.again (ih ((x + (gQ a b : Int), y + -gBk a b)) ?_ ?_) ?_ ?_
    · exact ⟨e2, by dsimp only; rw [Int.add_emod_right]; exact hinv.m, by dsimp only; omega, by dsimp only; omega, fy2⟩
    · (dsimp only; omega)
    · (repeat' first | exact envLe_nil | apply envLe_any | apply envLe_same)
    rfl
  have hx := of_decide_eq_false hx
  refine ARun.exit rfl ?_
  refine ARun.seq (ARun.block ?_)
  refine ARun.loopI (S := Int × Int) (fun σ : Int × Int => [(68, .any), (69, .any), (70, .any), (71, .any), (72, .any), (73, .any), (74, .any), (75, .any), (76, .any), (77, .any), (78, .any)]) (fun σ : Int × Int => [cell0, cellZ σ.1, cellZ σ.2, cellZ (gQ a b : Int), cellZ (gBk a b)]) (fun σ : Int × Int => GL a b σ.1 σ.2 ∧ 0 ≤ σ.1) (fun σ : Int × Int => σ.1.toNat) ((x, y)) ?_ ?_ ?_ ?_
  · exact ⟨hinv, by show 0 ≤ x; omega⟩
  · (repeat' first | exact envLe_nil | apply envLe_any | apply envLe_same)
  · rfl
  rintro ⟨x', y'⟩ hinv ih
  dsimp only at hinv ih ⊢
  refine ARun.seq (ARun.seq (ARun.region ?_))
  refine y_op rfl (Zab rfl rfl rfl rfl rfl rfl) ?_
  refine y_op rfl (Zab rfl rfl rfl rfl rfl rfl) ?_
  refine xc rfl rfl (ZnV x' (gQ a b : Int) (fx x' (by omega) hinv.1.hi) fq) ?_
  refine xi ?_; refine AOps.nil ?_
  refine ARun.cond rfl (fun hc => ?_) (fun hc => ?_)
  · skip
    have hc := cmpZ_geq hc
    have l1 := hinv.1.hi
    have e2 : a * (x' + -(gQ a b : Int)) + b * (y' + gBk a b) = (gG a b : Int) := by
      rw [Int.mul_add, Int.mul_add, Int.mul_neg, hbk]; have := hinv.1.e; omega
    have fy2 : fitZ (y' + gBk a b) := fit_max ha (ZlB hb0 e2 (by omega) (by omega))
    refine ARun.skip (ARun.block ?_)
    refine ARun.drawnG (n := 8) (fun S : Nat → Bool => [cell0, bif S 7 then cellZ (x' + -(gQ a b : Int)) else cellZ x', cellZ y', cellZ (gQ a b : Int), cellZ (gBk a b)]) [] (fun _ => False) (sk := []) mixC rfl rfl (by kernel_rfl) rfl (by kernel_rfl) rfl (fun _ _ _ h => h.elim) ?_
    refine DChG.opC rfl (fun S hn hd hc => OpQ.pre (H1 := [cell0, bif false then cellZ (x' + -(gQ a b : Int)) else cellZ x', cellZ y', cellZ (gQ a b : Int), cellZ (gBk a b)]) (by simp only [(clF hc hn (by kernel_rfl) : S 7 = false)]) (Zab rfl rfl rfl rfl rfl rfl)) (fun _ => rfl) rfl rfl ?_
    refine DChG.opC rfl (fun S hn hd hc => OpQ.pre (H1 := [cell0, bif false then cellZ (x' + -(gQ a b : Int)) else cellZ x', cellZ y', cellZ (gQ a b : Int), cellZ (gBk a b)]) (by simp only [(clF hc hn (by kernel_rfl) : S 7 = false)]) (Zab rfl rfl rfl rfl rfl rfl)) (fun _ => rfl) rfl rfl ?_
    refine DChG.op rfl (fun _ => q_call rfl rfl (Zdq (gQ a b : Int))) (fun _ => rfl) rfl rfl ?_
    refine DChG.op rfl (fun _ => q_call rfl rfl ((Zb4 x' (-(gQ a b : Int)) (fx x' (by omega) hinv.1.hi) (fitZ_neg fq)).mono (fun o ho => (ho.resolve_right (fun h => h.1 (fx _ (by omega) (by omega)))).2))) (fun _ => rfl) rfl rfl ?_
    refine DChG.op rfl (fun _ => Zab rfl rfl rfl rfl rfl rfl) (fun _ => rfl) rfl rfl ?_
    refine DChG.op rfl (fun _ => Zab rfl rfl rfl rfl rfl rfl) (fun _ => rfl) rfl rfl ?_
    refine DChG.op rfl (fun _ => q_call rfl rfl ((Zb4 y' (gBk a b) hinv.1.fy fbk).mono (fun o ho => (ho.resolve_right (fun h => h.1 fy2)).2))) (fun _ => rfl) rfl rfl ?_
    refine DChG.stC rfl (fun S hn hd hc => OpN.both (H1 := [cell0, bif false then cellZ (x' + -(gQ a b : Int)) else cellZ x', cellZ y', cellZ (gQ a b : Int), cellZ (gBk a b)]) (H3 := [cell0, bif true then cellZ (x' + -(gQ a b : Int)) else cellZ x', cellZ y', cellZ (gQ a b : Int), cellZ (gBk a b)]) (by simp only [hn]) rfl (Zaa rfl rfl rfl rfl rfl rfl rfl rfl (Nat.le_of_ble_eq_true rfl) rfl)) rfl rfl ?_
    refine .nil (fun hG => AOps.fin (n := 5) (as' := []) (H' := [cell0, cellZ (x' + -(gQ a b : Int)), cellZ y', cellZ (gQ a b : Int), cellZ (gBk a b)]) rfl rfl rfl ?_)
    refine y_new rfl (Zaa rfl rfl rfl rfl rfl rfl rfl rfl (Nat.le_of_ble_eq_true rfl) rfl) ?_
    refine AOps.nil (ARun.inBlock ?_)
    refine ARun.again (ih ((x' + -(gQ a b : Int), y' + gBk a b)) ?_ ?_) ?_ ?_
    · exact ⟨⟨e2, by dsimp only; rw [← hinv.1.m]; exact Int.sub_emod_right _ _, by dsimp only; omega, by dsimp only; omega, fy2⟩, by dsimp only; omega⟩
    · (dsimp only; omega)
    · (repeat' first | exact envLe_nil | apply envLe_any | apply envLe_same)
    rfl
  have hc := cmpZ_ngeq hc
  have h80 : PC C ZdG [D.bool false, numD (eu a.natAbs b.natAbs 1 0 0 1).1] (fun o => o = .ret (intD (gG a b : Int))) := by rw [eg]; exact Zam false (gG a b)
  refine ARun.exit rfl ?_
  refine ARun.seq ?_
  refine ARun.drawnG (n := 6) (fun S : Nat → Bool => [bif S 4 then cellZ (gG a b : Int) else cell0, cellZ x', cellZ y', cellZ (gQ a b : Int), cellZ (gBk a b)]) [] (fun _ => False) (sk := []) mixC rfl rfl (by kernel_rfl) rfl (by kernel_rfl) rfl (fun _ _ _ h => h.elim) ?_
  refine DChG.op rfl (fun _ => q_move rfl) (fun _ => rfl) rfl rfl ?_
  refine DChG.op rfl (fun _ => q_call rfl rfl (h80)) (fun _ => rfl) rfl rfl ?_
  refine DChG.op rfl (fun _ => Zab rfl rfl rfl rfl rfl rfl) (fun _ => rfl) rfl rfl ?_
  refine DChG.op rfl (fun _ => Zab rfl rfl rfl rfl rfl rfl) (fun _ => rfl) rfl rfl ?_
  refine DChG.stC rfl (fun S hn hd hc => OpN.both (H1 := [bif false then cellZ (gG a b : Int) else cell0, cellZ x', cellZ y', cellZ (gQ a b : Int), cellZ (gBk a b)]) (H3 := [bif true then cellZ (gG a b : Int) else cell0, cellZ x', cellZ y', cellZ (gQ a b : Int), cellZ (gBk a b)]) (by simp only [hn]) rfl (Zaa rfl rfl rfl rfl rfl rfl rfl rfl (Nat.le_of_ble_eq_true rfl) rfl)) rfl rfl ?_
  refine DChG.stC rfl (fun S hn hd hc => OpN.both (H1 := [bif true then cellZ (gG a b : Int) else cell0, cellZ x', cellZ y', cellZ (gQ a b : Int), cellZ (gBk a b)]) (H3 := [bif true then cellZ (gG a b : Int) else cell0, cellZ x', cellZ y', cellZ (gQ a b : Int), cellZ (gBk a b)]) (by simp only [hn, (hd 4 (by kernel_rfl) : S 4 = true)]) (by show [bif S 4 then cellZ (gG a b : Int) else cell0, cellZ x', cellZ y', cellZ (gQ a b : Int), cellZ (gBk a b)] = _; simp only [(hd 4 (by kernel_rfl) : S 4 = true)]) (Zaa rfl rfl rfl rfl rfl rfl rfl rfl (Nat.le_of_ble_eq_true rfl) rfl)) rfl rfl ?_
  refine .nil (fun hG => AOps.fin (n := 5) (as' := []) (H' := [cellZ (gG a b : Int), cellZ x', cellZ y', cellZ (gQ a b : Int), cellZ (gBk a b)]) rfl rfl rfl ?_)
  refine y_new rfl (Zaa rfl rfl rfl rfl rfl rfl rfl rfl (Nat.le_of_ble_eq_true rfl) rfl) ?_
  refine AOps.nil ?_
  refine ARun.ret ?_
  refine ⟨_, _, _, ResR.cellA rfl rfl rfl rfl rfl rfl (ResR.cellA rfl rfl rfl rfl rfl rfl (ResR.cellA rfl rfl rfl rfl rfl rfl .nil)), .cons (.same _) (.cons (.same _) (.cons (.same _) .nil)), rfl, ?_⟩
  obtain ⟨ex1, ey1⟩ := gcdXY hb0 hinv.1.e hinv.2 hc hinv.1.m
  rw [← ex1, ← ey1]; rfl
end Go.V
set_option synthInstance.maxSize 100000
set_option synthInstance.maxHeartbeats 2000000
namespace Go.V
open Go.RowKit Go.Proofs
def gcdR (ok : Bool) (a b : Int) : (Int × Int × Int) × Int := bif ok then (((gG a b : Int), gcdX a b, gcdY a b), 0) else ((0, 0, 0), 1)
theorem fit_small {z : Int} (h : z.natAbs ≤ 1) : fitZ z := by
  unfold fitZ
  refine Nat.le_trans (ln_mono h) ?_
  rw [lim_one]; decide
theorem gcd_eq {a b : Int} (h0 : b ≠ 0) : a * gcdX a b + b * gcdY a b = (gG a b : Int) := by
  have e : a * gX a b + b * gY a b = (gG a b : Int) := gXY h0
  have hbk := gBk_eq (a := a) h0
  have hd := Int.mul_ediv_add_emod (gX a b) (gQ a b : Int)
  have h2 : (gG a b : Int) - a * gcdX a b = b * (gY a b + gBk a b * (gX a b / (gQ a b : Int))) := by
    have hx : gcdX a b = gX a b - (gQ a b : Int) * (gX a b / (gQ a b : Int)) := by unfold gcdX; rw [if_neg h0]; generalize (gQ a b : Int) * (gX a b / (gQ a b : Int)) = t at *; omega
    rw [hx, Int.mul_sub, ← Int.mul_assoc, hbk, Int.mul_add, ← Int.mul_assoc]; omega
  have h3 : gcdY a b = gY a b + gBk a b * (gX a b / (gQ a b : Int)) := by
    unfold gcdY; rw [if_neg h0, h2, Int.mul_ediv_cancel_left _ h0]
  rw [h3]; omega
theorem fit_gcd {a b : Int} (ha : fitZ a) (hb : fitZ b) : fitZ (gG a b : Int) ∧ fitZ (gcdX a b) ∧ fitZ (gcdY a b) := by
  by_cases h0 : b = 0
  · subst h0
    refine ⟨?_, ?_, ?_⟩
    · unfold gG; rw [show (0 : Int).natAbs = 0 from rfl, Nat.gcd_zero_right]; unfold fitZ; rw [Int.natAbs_natCast]; exact ha
    · unfold gcdX; rw [if_pos rfl]; exact fit_small (by have := Int.sign_trichotomy a; omega)
    unfold gcdY; rw [if_pos rfl]; exact fit_small (by decide)
  have hq0 := gQ_pos (a := a) h0
  have hqb := gQ_le (a := a) h0
  have hx0 : 0 ≤ gcdX a b := by unfold gcdX; rw [if_neg h0]; exact Int.emod_nonneg _ (by omega)
  have hx1 : gcdX a b < gQ a b := by unfold gcdX; rw [if_neg h0]; exact Int.emod_lt_of_pos _ (by omega)
  have he : a * gcdX a b + b * gcdY a b = (gG a b : Int) := gcd_eq h0
  refine ⟨?_, fit_mono (y := b) (by omega) hb, fit_max ha (ZlB h0 he hx0 hx1)⟩
  exact fit_nat (Nat.le_of_dvd (by omega) (Nat.gcd_dvd_right _ _)) hb
theorem ZnY (d1 d2 : Bool × List Nat) (h1 : U32 d1.2) (h2 : U32 d2.2) : PC C Zgj [intA d1.1 d1.2, intA d2.1 d2.2] (fun o => o = .ret (.tup [intD (gcdR ([d1, d2].all okI) (valI d1) (valI d2)).1.1, intD (gcdR ([d1, d2].all okI) (valI d1) (valI d2)).1.2.1, intD (gcdR ([d1, d2].all okI) (valI d1) (valI d2)).1.2.2, .int .i64 (gcdR ([d1, d2].all okI) (valI d1) (valI d2)).2])) := by
  have pan : ∀ (e : Int) (env : List D) (tl : Heap), env[4]? = some (.ptr 0 0) → env[5]? = some (.ptr 1 0) → env[6]? = some (.ptr 2 0) → env[7]? = some (.ptr 3 0) → gcdR ([d1, d2].all okI) (valI d1) (valI d2) = ((0, 0, 0), e) → (QFin C [.cell 4 25, .cell 5 25, .cell 6 25, .cell 7 28] fun o x => o.pure = true ∧ o = .ret (.tup [intD (gcdR ([d1, d2].all okI) (valI d1) (valI d2)).1.1, intD (gcdR ([d1, d2].all okI) (valI d1) (valI d2)).1.2.1, intD (gcdR ([d1, d2].all okI) (valI d1) (valI d2)).1.2.2, .int .i64 (gcdR ([d1, d2].all okI) (valI d1) (valI d2)).2])) (.pan (failW e)) env (cell0 :: cell0 :: cell0 :: errO 0 :: tl) [.fn Zbr [.ptr 3 0]] := by
    intro e env tl h6 h7 h8 h9 hr
    refine DC.mono (dcw_pan _ 3 0 e rfl) ?_
    rintro _ _ ⟨rfl, rfl⟩
    exact ⟨_, _, _, ResR.cellA h6 rfl rfl rfl rfl rfl (ResR.cellA h7 rfl rfl rfl rfl rfl (ResR.cellA h8 rfl rfl rfl rfl rfl (ResR.cell1 h9 rfl rfl rfl rfl .nil))), .cons fz_int0 (.cons fz_int0 (.cons fz_int0 (.cons (.same _) .nil))), rfl, by rw [hr]; rfl⟩
  refine PC.rn Zfb ZjC ZjD (rs := [.cell 4 25, .cell 5 25, .cell 6 25, .cell 7 28]) (by rw [ZjE]) ?_
  refine ARun.seq (ARun.region ?_); refine xb ?_; refine xb ?_
  refine y_new rfl (Zag rfl rfl rfl rfl) ?_
  refine y_new rfl (Zag rfl rfl rfl rfl) ?_
  refine y_new rfl (Zag rfl rfl rfl rfl) ?_
  refine y_new rfl (Zag rfl rfl rfl rfl) ?_
  refine AOps.nil (ARun.seq (ARun.region ?_))
  refine Ze4 rfl rfl rfl ?_
  refine AOps.nil (ARun.seq (ARun.region ?_)); refine xL ?_; refine xL ?_
  refine y_op rfl (ZaB rfl rfl rfl rfl rfl rfl rfl rfl rfl rfl rfl (by decide) (by decide) rfl) ?_
  refine y_gop rfl (g_call rfl rfl (PC.gp (ZkQ [d1, d2] 2 rfl))) (fun hg => ?_) (fun q hq => by obtain ⟨hq, rfl⟩ := hq; exact pan 1 _ [] rfl rfl rfl rfl (by rw [hq]; rfl))
  have hres := hg
  obtain ⟨a, b, rfl, fa, rfl, fb⟩ := okI2 h1 h2 hg
  rw [valI_int, valI_int] at pan ⊢
  rw [hres] at pan ⊢
  have hfit := fit_gcd fa fb
  refine AOps.nil (ARun.seq (ARun.region ?_)); refine xL ?_; refine xL ?_
  refine xc rfl rfl (ZnX a b fa fb) ?_
  refine xm ?_; refine xe ?_; refine xe ?_; refine xe ?_
  refine y_new rfl (Zaa rfl rfl rfl rfl rfl rfl rfl rfl (Nat.le_of_ble_eq_true rfl) rfl) ?_
  refine y_new rfl (Zaa rfl rfl rfl rfl rfl rfl rfl rfl (Nat.le_of_ble_eq_true rfl) rfl) ?_
  refine y_new rfl (Zaa rfl rfl rfl rfl rfl rfl rfl rfl (Nat.le_of_ble_eq_true rfl) rfl) ?_
  refine AOps.nil (ARun.seq ?_)
  refine ARun.drawnG (n := 8) (fun S : Nat → Bool => [cellZ (gG a b : Int), cellZ (gcdX a b), cellZ (gcdY a b), errO 0]) [] (fun _ => False) (sk := []) mixC rfl rfl (by kernel_rfl) rfl (by kernel_rfl) rfl (fun _ _ _ h => h.elim) ?_
  refine DChG.op rfl (fun _ => Zab rfl rfl rfl rfl rfl rfl) (fun _ => rfl) rfl rfl ?_
  refine DChG.op rfl (fun _ => q_call rfl rfl (ZeC (gG a b : Int) hfit.1)) (fun _ => rfl) rfl rfl ?_
  refine DChG.op rfl (fun _ => Zab rfl rfl rfl rfl rfl rfl) (fun _ => rfl) rfl rfl ?_
  refine DChG.op rfl (fun _ => q_call rfl rfl (ZeC (gcdX a b) hfit.2.1)) (fun _ => rfl) rfl rfl ?_
  refine DChG.op rfl (fun _ => Zab rfl rfl rfl rfl rfl rfl) (fun _ => rfl) rfl rfl ?_
  refine DChG.op rfl (fun _ => q_call rfl rfl (ZeC (gcdY a b) hfit.2.2)) (fun _ => rfl) rfl rfl ?_
  refine DChG.stC rfl (fun S hn hd hc => OpN.both (H1 := [cellZ (gG a b : Int), cellZ (gcdX a b), cellZ (gcdY a b), errO 0]) (H3 := [cellZ (gG a b : Int), cellZ (gcdX a b), cellZ (gcdY a b), errO 0]) rfl rfl (Zaa rfl rfl rfl rfl rfl rfl rfl rfl (Nat.le_of_ble_eq_true rfl) rfl)) rfl rfl ?_
  refine DChG.stC rfl (fun S hn hd hc => OpN.both (H1 := [cellZ (gG a b : Int), cellZ (gcdX a b), cellZ (gcdY a b), errO 0]) (H3 := [cellZ (gG a b : Int), cellZ (gcdX a b), cellZ (gcdY a b), errO 0]) rfl rfl (Zaa rfl rfl rfl rfl rfl rfl rfl rfl (Nat.le_of_ble_eq_true rfl) rfl)) rfl rfl ?_
  refine .nil (fun hG => AOps.fin (n := 4) (as' := []) (H' := [cellZ (gG a b : Int), cellZ (gcdX a b), cellZ (gcdY a b), errO 0]) rfl rfl rfl ?_)
  refine y_new rfl (Zaa rfl rfl rfl rfl rfl rfl rfl rfl (Nat.le_of_ble_eq_true rfl) rfl) ?_
  refine y_new rfl (Zad rfl rfl rfl rfl rfl rfl (Nat.le_of_ble_eq_true rfl) rfl) ?_
  refine AOps.nil ?_
  refine ARun.ret ?_
  refine DC.mono (dcw_ret _ 3) ?_
  rintro _ _ ⟨rfl, rfl⟩
  exact ⟨_, _, _, ResR.cellA rfl rfl rfl rfl rfl rfl (ResR.cellA rfl rfl rfl rfl rfl rfl (ResR.cellA rfl rfl rfl rfl rfl rfl (ResR.cell1 rfl rfl rfl rfl rfl .nil))), .cons (.same _) (.cons (.same _) (.cons (.same _) (.cons (.same _) .nil))), rfl, rfl⟩
end Go.V
set_option synthInstance.maxSize 100000
set_option synthInstance.maxHeartbeats 2000000
namespace Go.V
open Go.RowKit Go.Proofs
theorem chk_ex (b : Nat) (h : 2 ≤ b) (h2 : b < 4294967296) : ∃ m : Nat, 0 < m ∧ b ^ m < 4294967296 ∧ 4294967296 ≤ b ^ (m + 1) := by
  apply Classical.byContradiction
  intro hn
  have key : ∀ m : Nat, b ^ (m + 1) < 4294967296 := by
    intro m
    induction m with
    | zero => simpa using h2
    | succ m ih =>
      rcases Nat.lt_or_ge (b ^ (m + 1 + 1)) 4294967296 with h1 | h1
      · exact h1
      exact (hn ⟨m + 1, by omega, ih, h1⟩).elim
  have h3 := key 31
  have h4 : 2 ^ 32 ≤ b ^ 32 := Nat.pow_le_pow_left h 32
  have : (2 : Nat) ^ 32 = 4294967296 := by decide
  rw [show 31 + 1 = 32 from rfl] at h3
  omega
theorem Ziq (b m : Nat) (h : 2 ≤ b) (h36 : b ≤ 36) (hm : 0 < m) (h1 : b ^ m < 4294967296) (h2 : 4294967296 ≤ b ^ (m + 1)) : PC C Zjg [.int .i64 (b : Int)] (fun o => o = .ret (.tup [.int .u32 ((b ^ m : Nat) : Int), .int .i64 (m : Int)])) := by
  have hml : m < 32 := by
    rcases Nat.lt_or_ge m 32 with h3 | h3
    · exact h3
    exfalso
    have h4 : 2 ^ 32 ≤ b ^ 32 := Nat.pow_le_pow_left h 32
    have h5 : b ^ 32 ≤ b ^ m := Nat.pow_le_pow_right (by omega) h3
    have : (2 : Nat) ^ 32 = 4294967296 := by decide
    omega
  refine PC.rn ZdN ZhT ZhU (rs := [.tmp 2, .tmp 3]) (by rw [ZhV]) ?_
  refine ARun.seq (ARun.region ?_); refine xa ?_; refine xa ?_; refine AOps.nil (ARun.seq (ARun.region ?_)); refine xm ?_
  refine y_op rfl (q_conv rfl rfl rfl (nconv_u64 (by omega))) ?_
  refine xa ?_; refine xa ?_; refine AOps.nil (ARun.seq (ARun.block ?_))
  refine ARun.loopI (S := Nat × Nat) (fun σ : Nat × Nat => [(8, .any), (9, .any), (10, .any), (11, .any), (12, .any), (13, .any), (14, .any), (15, .any), (16, .any), (17, .any), (18, .any), (4, .int .u64 (σ.2 : Int)), (5, .int .i64 (σ.1 : Int))]) (fun σ : Nat × Nat => []) (fun σ : Nat × Nat => σ.2 = b ^ σ.1 ∧ 0 < σ.1 ∧ σ.1 ≤ m) (fun σ : Nat × Nat => m - σ.1) ((1, b)) ?_ ?_ ?_ ?_
  · exact ⟨by simp, by show 0 < 1; decide, hm⟩
  · (repeat' first | exact envLe_nil | apply envLe_any | apply envLe_same)
  · rfl
  rintro ⟨n, p⟩ hinv ih
  dsimp only at hinv ih ⊢
  obtain ⟨hpe, hn, hnm⟩ := hinv
  have hpl : p < 4294967296 := by rw [hpe]; exact Nat.lt_of_le_of_lt (Nat.pow_le_pow_right (by omega) hnm) h1
  have hpm : b ^ (n + 1) = p * b := by rw [Nat.pow_succ, hpe]
  have hpb : p * b ≤ 4294967296 * 36 := Nat.mul_le_mul (by omega) h36
  refine ARun.seq (ARun.seq (ARun.region ?_)); refine xm ?_; refine xm ?_
  refine y_op rfl (q_conv rfl rfl rfl (nconv_u64 (by omega))) ?_
  refine y_op rfl (q_mul rfl rfl (nmul_u64 (by omega))) ?_
  refine xi ?_; refine AOps.nil ?_
  refine ARun.ite rfl (fun hc => ?_) (fun hc => ?_)
  · skip
    have hc2 : b ^ (n + 1) < 4294967296 := by rw [hpm]; omega
    have hlt : n < m := by
      rcases Nat.lt_or_ge n m with h3 | h3
      · exact h3
      exfalso
      have : n = m := by omega
      subst this
      omega
    refine ARun.skip (ARun.block (ARun.region ?_)); refine xm ?_; refine xm ?_
    refine y_op rfl (q_conv rfl rfl rfl (nconv_u64 (by omega))) ?_
    refine y_op rfl (q_mul rfl rfl (nmul_u64 (by omega))) ?_
    refine xm ?_
    refine y_op rfl (q_add rfl rfl (nadd1_i64 (by omega))) ?_
    refine xa ?_; refine xa ?_; refine AOps.nil (ARun.inBlock ?_)
    refine ARun.again (ih ((n + 1, p * b)) ?_ ?_) ?_ ?_
    · exact ⟨hpm.symm, by dsimp only; omega, by dsimp only; omega⟩
    · (dsimp only; omega)
    · (repeat' first | exact envLe_nil | apply envLe_any | apply envLe_same)
    rfl
  have hc2 : 4294967296 ≤ b ^ (n + 1) := by rw [hpm]; omega
  have hlt : n = m := by
    rcases Nat.lt_or_ge n m with h3 | h3
    · exfalso
      have : b ^ (n + 1) ≤ b ^ m := Nat.pow_le_pow_right (by omega) (by omega)
      omega
    omega
  subst hlt
  refine ARun.exit rfl ?_
  refine ARun.seq (ARun.region ?_); refine xm ?_
  refine y_op rfl (q_conv rfl rfl rfl nconv_u32) ?_
  refine xm ?_; refine xa ?_; refine xa ?_; refine AOps.nil ?_
  refine ARun.ret ?_
  refine ⟨_, _, _, .tmp rfl (.tmp rfl .nil), .cons (.same _) (.cons (.same _) .nil), rfl, ?_⟩
  rw [← hpe, show p % 4294967296 = p from Nat.mod_eq_of_lt hpl]; rfl
end Go.V
set_option maxHeartbeats 2000000
set_option synthInstance.maxSize 100000
set_option synthInstance.maxHeartbeats 2000000
namespace Go.V
open Go.RowKit Go.Proofs
def dgs (b v : Nat) : List Nat := if h : v = 0 ∨ b < 2 then [] else (v % b) :: dgs b (v / b)
termination_by v
decreasing_by exact Nat.div_lt_self (by omega) (by omega)
theorem dgs_zero (b : Nat) : dgs b 0 = [] := by rw [dgs]; rw [dif_pos (.inl rfl)]
theorem dgs_pos {b v : Nat} (hb : 2 ≤ b) (hv : 0 < v) : dgs b v = (v % b) :: dgs b (v / b) := by rw [dgs]; rw [dif_neg (by omega)]
theorem drop_get' {α : Type} [Inhabited α] {l : List α} {k : Nat} {x : α} {r : List α} (h : l.drop k = x :: r) : k < l.length ∧ l[k]? = some x ∧ l.drop (k + 1) = r := by
  have h1 : k < l.length := by
    rcases Nat.lt_or_ge k l.length with h1 | h1
    · exact h1
    rw [List.drop_eq_nil_of_le h1] at h; cases h
  refine ⟨h1, ?_, ?_⟩
  · rw [List.drop_eq_getElem_cons h1] at h
    injection h with h _
    rw [← h]; simp
  rw [List.drop_eq_getElem_cons h1] at h
  injection h with _ h
theorem dgs_lt {b : Nat} (hb : 2 ≤ b) : ∀ v : Nat, ∀ d ∈ dgs b v, d < b := by
  intro v
  induction v using Nat.strongRecOn with
  | _ v ih =>
    intro d hd
    rcases Nat.eq_zero_or_pos v with h0 | h0
    · subst h0; rw [dgs_zero] at hd; cases hd
    rw [dgs_pos hb h0] at hd
    rcases List.mem_cons.1 hd with rfl | hd
    · exact Nat.mod_lt _ (by omega)
    exact ih _ (Nat.div_lt_self h0 (by omega)) d hd
theorem one_lt_pow {b m : Nat} (hb : 2 ≤ b) (hm : 0 < m) : 1 < b ^ m := by
  have h := Nat.pow_le_pow_right (n := b) (by omega) hm
  rw [Nat.pow_one] at h
  omega
theorem chk_lt {b m : Nat} (hb : 2 ≤ b) (h1 : b ^ m < 4294967296) : m < 64 := by
  rcases Nat.lt_or_ge m 64 with h3 | h3
  · exact h3
  exfalso
  have h4 : 2 ^ 32 ≤ b ^ 32 := Nat.pow_le_pow_left hb 32
  have h5 : b ^ 32 ≤ b ^ m := Nat.pow_le_pow_right (by omega) (by omega)
  have : (2 : Nat) ^ 32 = 4294967296 := by decide
  omega
theorem digN {n q b m i : Nat} (h : i < m) : (n + q * b ^ (m - i)) % b = n % b := by
  rw [show m - i = (m - i - 1) + 1 by omega, Nat.pow_succ, ← Nat.mul_assoc, Nat.add_mul_mod_self_right]
theorem divN {n q b j : Nat} (h : 0 < b) : (n + q * b ^ (j + 1)) / b = n / b + q * b ^ j := by
  rw [Nat.pow_succ, ← Nat.mul_assoc, Nat.add_mul_div_right _ _ h]
theorem numD_small {p : Nat} (h0 : 0 < p) (h : p < 4294967296) : D.sl 1 [.int .u32 (p : Int)] = numD p := by
  rw [numD, lim_pos (by omega), show p / B = 0 from Nat.div_eq_of_lt h, lim_zero, show p % B = p from Nat.mod_eq_of_lt h]; rfl
theorem Znt (a b : Nat) (o0 : Option AObj) : HC C ZhP [o0] [numD a, .int .i64 (b : Int)] (fun o H' => o = .ret (.clos ZcK [.ptr 2 0, .ptr 1 0]) ∧ H' = [o0, some ⟨[numD a], Zd6, 1, true, none⟩, some ⟨[.int .i64 (b : Int)], t_int, 1, true, none⟩]) := by
  refine HC.run Zdi Zg5 rfl Zg6 (rs := [.tmp 4]) (by rw [Zg7]) (by simp only [List.length_cons, List.length_nil, Nat.reduceAdd, Nat.reduceSub, List.replicate_succ, List.replicate_zero, List.cons_append, List.nil_append]; exact rfl) ?_
  refine ARun.seq (ARun.region ?_)
  refine y_new rfl (n_box rfl rfl rfl) ?_
  refine y_new rfl (n_box rfl rfl rfl) ?_
  refine xa ?_; refine AOps.nil (ARun.seq (ARun.region ?_))
  refine y_op rfl (ZlR rfl) ?_
  refine xa ?_; refine AOps.nil ?_
  refine ARun.ret ?_
  refine ⟨_, _, _, .tmp rfl .nil, .cons (.same _) .nil, ?_⟩
  exact ⟨rfl, rfl⟩
abbrev HD (c b : Nat) (ps : Array Tmp) (asg bd : Code) (envL : List D) (st : LSt) (o0 : Option AObj) (T : Heap) : Heap := o0 :: some ⟨[numD c], Zd6, 1, true, none⟩ :: some ⟨[.int .i64 (b : Int)], t_int, 1, true, none⟩ :: defsO :: loopO st ps asg bd envL :: T
theorem ZlC (a b : Nat) (ha : (lim a).length ≤ 1024) (hb2 : 2 ≤ b) (hb36 : b ≤ 36) (ps : List Tmp) (hps : ps.length = 1) (asg bd : Code) (envL : List D) (R : Nat → Option AObj → Heap → Prop)
    (hround : ∀ (k c d : Nat) (o0 : Option AObj) (T : Heap), (dgs b a)[k]? = some d → R k o0 T → ARun C (QRound 4 (fun j H' => j = none ∧ ∃ o0' T', R (k + 1) o0' T' ∧ H' = HD c b ps.toArray asg bd envL .busy o0' T')) [.code asg, .beginRound, .code bd] (setL envL (ps.zip [.int .i64 (d : Int)])) (HD c b ps.toArray asg bd envL .ready o0 T) [])
    (o0 : Option AObj) (T : Heap) (h0 : R 0 o0 T) :
    HC C ZcK (HD a b ps.toArray asg bd envL .ready o0 T) [.yld 4, .ptr 2 0, .ptr 1 0] (fun o H' => o = .ret (.tup []) ∧ ∃ o0' T', R (dgs b a).length o0' T' ∧ H' = HD 0 b ps.toArray asg bd envL .ready o0' T') := by
  obtain ⟨m, hm0, hm1, hm2⟩ := chk_ex b hb2 (by omega)
  have hp0 : 0 < b ^ m := Nat.pow_pos (by omega)
  refine HC.run Zcb ZeT rfl ZeU (rs := []) (by rw [ZeV]) (by simp only [List.length_cons, List.length_nil, Nat.reduceAdd, Nat.reduceSub, List.replicate_succ, List.replicate_zero, List.cons_append, List.nil_append]; exact rfl) ?_
  refine ARun.seq (ARun.region ?_)
  refine y_op rfl (Zac rfl rfl rfl rfl rfl) ?_
  refine xc rfl rfl (Ziq b m hb2 hb36 hm0 hm1 hm2) ?_
  refine xm ?_; refine xe ?_; refine xe ?_; refine xa ?_; refine xa ?_; refine AOps.nil (ARun.block ?_)
  refine ARun.loopI (S := Nat × Nat × Option AObj × Heap) (fun σ : Nat × Nat × Option AObj × Heap => [(6, .any), (7, .any), (8, .any), (9, .any), (10, .any), (16, .any), (17, .any), (18, .any), (19, .any), (20, .any), (21, .any), (22, .any), (23, .any), (24, .any), (25, .any), (26, .any), (27, .any), (28, .any), (29, .any), (30, .any), (31, .any), (32, .any), (33, .any), (34, .any), (35, .any), (36, .any), (37, .any), (38, .any), (39, .any), (40, .any), (41, .any), (42, .any), (43, .any), (44, .any), (45, .any), (46, .any), (47, .any), (48, .any), (49, .any), (50, .any), (51, .any), (52, .any), (53, .any), (54, .any), (55, .any), (56, .any), (57, .any), (58, .any), (59, .any), (60, .any), (61, .any), (4, .int .u32 ((b ^ m : Nat) : Int)), (5, .int .i64 (m : Int))]) (fun σ : Nat × Nat × Option AObj × Heap => HD σ.1 b ps.toArray asg bd envL .ready σ.2.2.1 σ.2.2.2) (fun σ : Nat × Nat × Option AObj × Heap => σ.1 ≤ a ∧ R σ.2.1 σ.2.2.1 σ.2.2.2 ∧ σ.2.1 ≤ (dgs b a).length ∧ (dgs b a).drop σ.2.1 = dgs b σ.1) (fun σ : Nat × Nat × Option AObj × Heap => σ.1) ((a, 0, o0, T)) ?_ ?_ ?_ ?_
  · exact ⟨Nat.le_refl _, h0, Nat.zero_le _, rfl⟩
  · (repeat' first | exact envLe_nil | apply envLe_any | apply envLe_same)
  · rfl
  rintro ⟨c, k, o0, T⟩ hinv ih
  dsimp only at hinv ih ⊢
  obtain ⟨hca, hR, hk, hdr⟩ := hinv
  refine ARun.seq (ARun.seq (ARun.region ?_))
  refine y_op rfl (Zac rfl rfl rfl rfl rfl) ?_
  refine xN ?_; refine xi ?_; refine AOps.nil ?_
  refine ARun.ite rfl (fun h => ?_) (fun h => ?_)
  · skip
    have hc0 : 0 < c := Nat.pos_of_ne_zero (ln_pos.1 (by omega))
    have fc : (lim c).length ≤ 1024 := Nat.le_trans (ln_mono hca) ha
    have hres : resD (lim c) (lim (b ^ m)) = (c / b ^ m, c % b ^ m, 0) := by
      unfold resD
      have hl : (lim (b ^ m)).length = 1 := by rw [lim_pos (by omega), show b ^ m / B = 0 from Nat.div_eq_of_lt hm1, lim_zero]; rfl
      rw [okB_lim fc, okB_lim (by omega), val_lim, val_lim]
      simp only [Bool.and_self, cond_true, hl, if_neg (show ¬ (1 : Nat) = 0 by decide)]
    have hdiv : PC C Zeq [numD c, .sl 1 [.int .u32 ((b ^ m : Nat) : Int)]] (fun o => o = .ret (.tup [numD (c / b ^ m), numD (c % b ^ m), .int .i64 0])) := by
      rw [numD_small hp0 hm1]
      exact (Ze8 (lim c) (lim (b ^ m)) (U32_lim _) (U32_lim _)).mono fun o ho => by rw [ho, hres]
    refine ARun.skip (ARun.block (ARun.seq (ARun.region ?_)))
    refine y_op rfl (Zac rfl rfl rfl rfl rfl) ?_
    refine xm ?_
    refine y_op rfl (ZaB rfl rfl rfl rfl rfl rfl rfl rfl rfl rfl rfl (by decide) (by decide) rfl) ?_
    refine xc rfl rfl (hdiv) ?_
    refine xm ?_; refine xe ?_; refine xe ?_; refine xe ?_; refine xa ?_; refine xa ?_; refine xa ?_; refine AOps.nil (ARun.seq (ARun.region ?_)); refine xm ?_; refine xi ?_; refine xm ?_
    refine y_gop rfl (g_call rfl rfl (PC.gp (Zbe _ 0))) (fun hg => ?_) (fun q hq => by obtain ⟨hq, rfl⟩ := hq; cases hq)
    refine AOps.nil (ARun.seq (ARun.region ?_)); refine xm ?_
    refine y_new rfl (Zad rfl rfl rfl rfl rfl rfl (Nat.le_of_ble_eq_true rfl) rfl) ?_
    refine AOps.nil (ARun.seq (ARun.region ?_)); refine xa ?_; refine AOps.nil (ARun.seq (ARun.seq (ARun.region ?_))); refine xm ?_; refine xN ?_; refine xi ?_; refine AOps.nil ?_
    refine ARun.join (S := Nat) (fun r : Nat => [(35, .any), (36, .any), (37, .any), (38, .any), (9, .int .i64 (r : Int))]) (fun r : Nat => r = c % b ^ m) (fun run => ?_) ?_
    · skip
      refine ARun.ite rfl (fun h2 => ?_) (fun h2 => ?_)
      · skip
        have hrl : c % b ^ m < 4294967296 := Nat.lt_trans (Nat.mod_lt _ hp0) hm1
        have hg : dig (c % b ^ m) 0 = c % b ^ m := by rw [dig, Nat.pow_zero, Nat.div_one]; exact Nat.mod_eq_of_lt (Nat.lt_of_lt_of_le (Nat.mod_lt _ hp0) (show b ^ m ≤ B from Nat.le_of_lt hm1))
        refine ARun.region ?_; refine xm ?_
        refine y_op rfl (Zaj (i := 0) rfl rfl rfl rfl (by omega) (by omega) (nts_ne (by omega)) (drop_nat rfl)) ?_
        refine y_op rfl (q_load rfl rfl rfl (lim_load (i := 0) (by omega))) ?_
        rw [hg]
        refine y_op rfl (q_conv rfl rfl rfl (nconv_i64 (by omega))) ?_
        refine xa ?_; refine AOps.nil ?_
        exact ARun.ag (run ((c % b ^ m)) (rfl))
      have hr0 : c % b ^ m = 0 := by
        apply Classical.byContradiction
        intro hn
        have := ln_pos.2 hn
        omega
      refine ARun.skip ?_
      exact ARun.ag (run (0) (hr0.symm))
    rintro r hj
    try dsimp only at hj ⊢
    subst hj
    refine ARun.seq (ARun.region ?_); refine xa ?_; refine AOps.nil (ARun.block ?_)
    refine ARun.loopI (S := Nat × Nat × Nat × Option AObj × Heap) (fun σ : Nat × Nat × Nat × Option AObj × Heap => [(39, .any), (40, .any), (41, .any), (42, .any), (43, .any), (44, .any), (45, .any), (46, .any), (47, .any), (48, .any), (49, .any), (50, .any), (51, .any), (52, .any), (53, .any), (54, .any), (55, .any), (56, .any), (57, .any), (58, .any), (59, .any), (60, .any), (61, .any), (9, .int .i64 (σ.2.1 : Int)), (10, .int .i64 (σ.1 : Int))]) (fun σ : Nat × Nat × Nat × Option AObj × Heap => HD (c / b ^ m) b ps.toArray asg bd envL .ready σ.2.2.2.1 σ.2.2.2.2) (fun σ : Nat × Nat × Nat × Option AObj × Heap => σ.1 ≤ m ∧ σ.2.1 < b ^ (m - σ.1) ∧ R σ.2.2.1 σ.2.2.2.1 σ.2.2.2.2 ∧ σ.2.2.1 ≤ (dgs b a).length ∧ (dgs b a).drop σ.2.2.1 = dgs b (σ.2.1 + c / b ^ m * b ^ (m - σ.1))) (fun σ : Nat × Nat × Nat × Option AObj × Heap => m - σ.1) ((0, c % b ^ m, k, o0, T)) ?_ ?_ ?_ ?_
    · exact ⟨Nat.zero_le _, Nat.mod_lt _ hp0, hR, hk, by dsimp only; rw [hdr, Nat.sub_zero, Nat.mul_comm, Nat.mod_add_div]⟩
    · (repeat' first | exact envLe_nil | apply envLe_any | apply envLe_same)
    · rfl
    rintro ⟨i, n, k, o0, T⟩ hinv2 ih2
    dsimp only at hinv2 ih2 ⊢
    obtain ⟨him, hnb, hR2, hk2, hdr2⟩ := hinv2
    have hml : m < 64 := chk_lt hb2 hm1
    have hnb2 : n < 4294967296 := Nat.lt_of_lt_of_le hnb (Nat.le_trans (Nat.pow_le_pow_right (by omega) (Nat.sub_le m i)) (by omega))
    have hpi : 0 < b ^ (m - i) := Nat.pow_pos (by omega)
    refine ARun.seq (ARun.seq (ARun.region ?_)); refine xm ?_; refine xm ?_; refine xi ?_; refine xm ?_
    refine AOps.bool 42 rfl (fun h3 => ?_) (fun h3 => ?_)
    · skip
      have h3i : i < m := by have := of_decide_eq_true h3; omega
      refine xm ?_; refine xi ?_; refine xm ?_
      refine AOps.bool 45 rfl (fun h4 => ?_) (fun h4 => ?_)
      · skip
        have h4 := of_decide_eq_true h4
        refine xk ?_; refine xk ?_; refine xk ?_; refine xp ?_; refine xp ?_; refine AOps.nil ?_
        have hV0 : 0 < n + c / b ^ m * b ^ (m - i) := by omega
        have hd := hdr2
        rw [dgs_pos hb2 hV0, digN (n := n) (q := c / b ^ m) (b := b) (show i < m from h3i)] at hd
        obtain ⟨hd1, hd2, hd3⟩ := drop_get' hd
        rw [show n + c / b ^ m * b ^ (m - i) = n + c / b ^ m * b ^ (m - (i + 1) + 1) by rw [show m - (i + 1) + 1 = m - i by omega], divN (by omega)] at hd3
        refine ARun.condT rfl ?_
        refine ARun.skip (ARun.seq (ARun.block (ARun.seq (ARun.seq (ARun.region ?_))))); refine xm ?_; refine xm ?_
        refine y_op rfl (Zac rfl rfl rfl rfl rfl) ?_
        refine y_op rfl (q_rem rfl rfl (by omega) (nrem rfl)) ?_
        refine AOps.yieldI _ rfl rfl rfl rfl (by rw [hps]; rfl) rfl (hround k (c / b ^ m) (n % b) o0 T hd2 hR2) ?_ ?_ ?_
        · rintro q H' ⟨_, o0', T', _, rfl⟩; rfl
        · skip
          rintro _ ⟨_, o0', T', hR3, rfl⟩
          refine AOps.hp (H' := HD (c / b ^ m) b ps.toArray asg bd envL .ready o0' T') rfl ?_
          refine xn ?_; refine AOps.nil ?_
          refine ARun.condF rfl ?_
          refine ARun.skip (ARun.region ?_); refine xm ?_
          refine y_op rfl (Zac rfl rfl rfl rfl rfl) ?_
          refine y_op rfl (q_quo rfl rfl (by omega) (nquo_i64 rfl (by omega))) ?_
          refine xa ?_; refine AOps.nil (ARun.inBlock (ARun.region ?_)); refine xm ?_
          refine y_op rfl (q_add rfl rfl (nadd1_i64 (by omega))) ?_
          refine xa ?_; refine AOps.nil ?_
          refine ARun.again (ih2 ((i + 1, n / b, k + 1, o0', T')) ?_ ?_) ?_ ?_
          · exact ⟨by dsimp only; omega, Nat.div_lt_of_lt_mul (by rw [Nat.mul_comm, ← Nat.pow_succ, show (m - (i + 1)).succ = m - i by omega]; exact hnb), hR3, by dsimp only; omega, hd3⟩
          · (dsimp only; omega)
          · (repeat' first | exact envLe_nil | apply envLe_any | apply envLe_same)
          rfl
        rintro _ _ ⟨h, _⟩
        cases h
      have h4 := of_decide_eq_false h4
      have hn0 : n = 0 := by omega
      refine y_op rfl (Zac rfl rfl rfl rfl rfl) ?_
      refine xN ?_; refine xi ?_; refine xp ?_; refine xp ?_; refine AOps.nil ?_
      refine ARun.cond rfl (fun h5 => ?_) (fun h5 => ?_)
      · skip
        have h5 := of_decide_eq_true h5
        have hq0 : 0 < c / b ^ m := Nat.pos_of_ne_zero (ln_pos.1 (by omega))
        have hV0 : 0 < n + c / b ^ m * b ^ (m - i) := by have := Nat.mul_pos hq0 hpi; omega
        have hd := hdr2
        rw [dgs_pos hb2 hV0, digN (n := n) (q := c / b ^ m) (b := b) (show i < m from h3i)] at hd
        obtain ⟨hd1, hd2, hd3⟩ := drop_get' hd
        rw [show n + c / b ^ m * b ^ (m - i) = n + c / b ^ m * b ^ (m - (i + 1) + 1) by rw [show m - (i + 1) + 1 = m - i by omega], divN (by omega)] at hd3
        refine ARun.skip (ARun.seq (ARun.block (ARun.seq (ARun.seq (ARun.region ?_))))); refine xm ?_; refine xm ?_
        refine y_op rfl (Zac rfl rfl rfl rfl rfl) ?_
        refine y_op rfl (q_rem rfl rfl (by omega) (nrem rfl)) ?_
        refine AOps.yieldI _ rfl rfl rfl rfl (by rw [hps]; rfl) rfl (hround k (c / b ^ m) (n % b) o0 T hd2 hR2) ?_ ?_ ?_
        · rintro q H' ⟨_, o0', T', _, rfl⟩; rfl
        · skip
          rintro _ ⟨_, o0', T', hR3, rfl⟩
          refine AOps.hp (H' := HD (c / b ^ m) b ps.toArray asg bd envL .ready o0' T') rfl ?_
          refine xn ?_; refine AOps.nil ?_
          refine ARun.condF rfl ?_
          refine ARun.skip (ARun.region ?_); refine xm ?_
          refine y_op rfl (Zac rfl rfl rfl rfl rfl) ?_
          refine y_op rfl (q_quo rfl rfl (by omega) (nquo_i64 rfl (by omega))) ?_
          refine xa ?_; refine AOps.nil (ARun.inBlock (ARun.region ?_)); refine xm ?_
          refine y_op rfl (q_add rfl rfl (nadd1_i64 (by omega))) ?_
          refine xa ?_; refine AOps.nil ?_
          refine ARun.again (ih2 ((i + 1, n / b, k + 1, o0', T')) ?_ ?_) ?_ ?_
          · exact ⟨by dsimp only; omega, Nat.div_lt_of_lt_mul (by rw [Nat.mul_comm, ← Nat.pow_succ, show (m - (i + 1)).succ = m - i by omega]; exact hnb), hR3, by dsimp only; omega, hd3⟩
          · (dsimp only; omega)
          · (repeat' first | exact envLe_nil | apply envLe_any | apply envLe_same)
          rfl
        rintro _ _ ⟨h, _⟩
        cases h
      have h5 := of_decide_eq_false h5
      have hq0 : c / b ^ m = 0 := by
        apply Classical.byContradiction
        intro hn
        have := ln_pos.2 hn
        omega
      refine ARun.exit rfl ?_
      refine ARun.inBlock ?_
      refine ARun.again (ih ((c / b ^ m, k, o0, T)) ?_ ?_) ?_ ?_
      · exact ⟨Nat.le_trans (Nat.div_le_self _ _) hca, hR2, hk2, by rw [hdr2, hn0, hq0, Nat.zero_mul]⟩
      · exact Nat.div_lt_self hc0 (one_lt_pow hb2 hm0)
      · (repeat' first | exact envLe_nil | apply envLe_any | apply envLe_same)
      rfl
    have h3i : i = m := by have := of_decide_eq_false h3; omega
    have hn0 : n = 0 := by rw [h3i, Nat.sub_self, Nat.pow_zero] at hnb; omega
    refine xk ?_; refine xk ?_; refine xk ?_; refine xk ?_; refine xk ?_; refine xk ?_; refine xk ?_; refine xp ?_; refine AOps.nil ?_
    refine ARun.condF rfl ?_
    refine ARun.exit rfl ?_
    refine ARun.inBlock ?_
    refine ARun.again (ih ((c / b ^ m, k, o0, T)) ?_ ?_) ?_ ?_
    · exact ⟨Nat.le_trans (Nat.div_le_self _ _) hca, hR2, hk2, by rw [hdr2, hn0, h3i, Nat.sub_self, Nat.pow_zero, Nat.mul_one, Nat.zero_add]⟩
    · exact Nat.div_lt_self hc0 (one_lt_pow hb2 hm0)
    · (repeat' first | exact envLe_nil | apply envLe_any | apply envLe_same)
    rfl
  have hc0 : c = 0 := by
    apply Classical.byContradiction
    intro hn
    have := ln_pos.2 hn
    omega
  subst hc0
  refine ARun.exit rfl ?_
  refine ARun.nil ?_
  refine ⟨_, _, _, .nil, .nil, ?_⟩
  rw [dgs_zero] at hdr
  have : (dgs b a).length ≤ k := by
    rcases Nat.lt_or_ge k (dgs b a).length with h1 | h1
    · rw [List.drop_eq_getElem_cons h1] at hdr; cases hdr
    exact h1
  have hk2 : k = (dgs b a).length := by omega
  subst hk2
  exact ⟨rfl, _, _, hR, rfl⟩
end Go.V
set_option maxHeartbeats 2000000
set_option synthInstance.maxSize 100000
set_option synthInstance.maxHeartbeats 2000000
namespace Go.V
open Go.RowKit Go.Proofs
abbrev rowB (ys : List Nat) : Option AObj := some ⟨nts .u8 ys, Zci, 1, true, none⟩
structure RevI (xs ys : List Nat) (i : Nat) : Prop where
  l : ys.length = xs.length
  h : 2 * i ≤ xs.length + 1
  g : ∀ j, j < xs.length → ys.getD j 0 = if j < i ∨ xs.length ≤ j + i then xs.getD (xs.length - 1 - j) 0 else xs.getD j 0
theorem RevI.start (xs : List Nat) : RevI xs xs 0 := ⟨rfl, by omega, fun j hj => by rw [if_neg (by omega)]⟩
theorem getD_set {l : List Nat} {i j v : Nat} (hi : i < l.length) : (l.set i v).getD j 0 = if i = j then v else l.getD j 0 := by
  rw [List.getD_eq_getElem?_getD, List.getD_eq_getElem?_getD, List.getElem?_set]
  by_cases e : i = j
  · subst e; simp [hi]
  simp [e]
theorem RevI.step {xs ys : List Nat} {i j : Nat} (h : RevI xs ys i) (hij : i < j) (hj : j + i + 1 = xs.length) : RevI xs ((ys.set i (ys.getD j 0)).set j (ys.getD i 0)) (i + 1) := by
  have hl := h.l
  refine ⟨by simp [hl], by omega, fun k hk => ?_⟩
  rw [getD_set (by simp; omega), getD_set (by omega)]
  by_cases e1 : j = k
  · subst e1
    rw [if_pos rfl, if_pos (by omega), h.g i (by omega), if_neg (by omega), show xs.length - 1 - j = i by omega]
  rw [if_neg e1]
  by_cases e2 : i = k
  · subst e2
    rw [if_pos rfl, if_pos (by omega), h.g j (by omega), if_neg (by omega), show xs.length - 1 - i = j by omega]
  rw [if_neg e2, h.g k hk]
  by_cases e3 : k < i ∨ xs.length ≤ k + i
  · rw [if_pos e3, if_pos (by omega)]
  rw [if_neg e3, if_neg (by omega)]
theorem RevI.fin {xs ys : List Nat} {i : Nat} (h : RevI xs ys i) (hn : xs.length ≤ 2 * i + 1) : ys = xs.reverse := by
  have hl := h.l
  apply List.ext_getElem?
  intro j
  by_cases hj : j < xs.length
  · have e := h.g j hj
    have e2 : ys.getD j 0 = xs.getD (xs.length - 1 - j) 0 := by
      rw [e]
      by_cases e3 : j < i ∨ xs.length ≤ j + i
      · rw [if_pos e3]
      rw [if_neg e3, show xs.length - 1 - j = j by omega]
    rw [List.getElem?_reverse hj]
    rw [List.getD_eq_getElem?_getD, List.getD_eq_getElem?_getD] at e2
    rw [List.getElem?_eq_getElem (show j < ys.length by omega), List.getElem?_eq_getElem (show xs.length - 1 - j < xs.length by omega)] at e2 ⊢
    simpa using e2
  rw [List.getElem?_eq_none (by omega), List.getElem?_eq_none (by simp; omega)]
theorem ZlD (xs : List Nat) (hn : xs.length ≤ 1099511627776) : HC C Zb0 [rowB xs] [.row 0 xs.length] (fun o H' => o = .ret (.tup []) ∧ H' = [rowB xs.reverse]) := by
  refine HC.run ZaI ZbV rfl ZbW (rs := []) (by rw [ZbX]) (by simp only [List.length_cons, List.length_nil, Nat.reduceAdd, Nat.reduceSub, List.replicate_succ, List.replicate_zero, List.cons_append, List.nil_append]; exact rfl) ?_
  refine ARun.seq (ARun.region ?_); refine xm ?_
  refine y_op rfl (ZaF rfl rfl rfl) ?_
  refine y_op rfl (q_sub rfl rfl (IntWalk.i64_in _ (by omega))) ?_
  refine xa ?_; refine xa ?_; refine AOps.nil (ARun.block ?_)
  refine ARun.loopI (S := Nat × Int × List Nat) (fun σ : Nat × Int × List Nat => [(7, .any), (8, .any), (9, .any), (10, .any), (11, .any), (12, .any), (13, .any), (14, .any), (15, .any), (16, .any), (17, .any), (18, .any), (19, .any), (20, .any), (21, .any), (22, .any), (23, .any), (24, .any), (25, .any), (26, .any), (27, .any), (2, .int .i64 (σ.1 : Int)), (3, .int .i64 σ.2.1)]) (fun σ : Nat × Int × List Nat => [rowB σ.2.2]) (fun σ : Nat × Int × List Nat => σ.2.1 = (xs.length : Int) - 1 - (σ.1 : Int) ∧ RevI xs σ.2.2 σ.1) (fun σ : Nat × Int × List Nat => xs.length - σ.1) ((0, (xs.length : Int) - 1, xs)) ?_ ?_ ?_ ?_
  · exact ⟨by show (xs.length : Int) - 1 = (xs.length : Int) - 1 - ((0 : Nat) : Int); omega, RevI.start xs⟩
  · (repeat' first | exact envLe_nil | apply envLe_any | apply envLe_same)
  · rfl
  rintro ⟨i, t, ys⟩ hinv ih
  dsimp only at hinv ih ⊢
  obtain ⟨ht, hinv⟩ := hinv
  have hl := hinv.l
  have hh := hinv.h
  refine ARun.seq (ARun.seq (ARun.region ?_)); refine xm ?_; refine xm ?_; refine xi ?_; refine AOps.nil ?_
  refine ARun.cond rfl (fun h => ?_) (fun h => ?_)
  · skip
    have h := of_decide_eq_true h
    obtain ⟨j, hj⟩ : ∃ j : Nat, j + i + 1 = xs.length := ⟨xs.length - 1 - i, by omega⟩
    obtain rfl : t = (j : Int) := by omega
    refine ARun.skip (ARun.seq (ARun.block ?_))
    refine ARun.drawnG (n := 14) (fun S : Nat → Bool => [rowB (bif S 13 then ys.set i (ys.getD j 0) else ys)]) [] (fun _ => False) (sk := []) mixC rfl rfl (by kernel_rfl) rfl (by kernel_rfl) rfl (fun _ _ _ h => h.elim) ?_
    refine DChG.op rfl (fun _ => q_move rfl) (fun _ => rfl) rfl rfl ?_
    refine DChG.op rfl (fun _ => q_move rfl) (fun _ => rfl) rfl rfl ?_
    refine DChG.op rfl (fun _ => q_move rfl) (fun _ => rfl) rfl rfl ?_
    refine DChG.op rfl (fun _ => q_move rfl) (fun _ => rfl) rfl rfl ?_
    refine DChG.op rfl (fun _ => q_move rfl) (fun _ => rfl) rfl rfl ?_
    refine DChG.op rfl (fun _ => q_move rfl) (fun _ => rfl) rfl rfl ?_
    refine DChG.op rfl (fun _ => Zah rfl rfl rfl rfl rfl (by omega) (by omega) (idx_nat rfl)) (fun _ => rfl) rfl rfl ?_
    refine DChG.opC rfl (fun S hn hd hc => OpQ.pre (H1 := [rowB (bif false then ys.set i (ys.getD j 0) else ys)]) (by simp only [(clF hc hn (by kernel_rfl) : S 13 = false)]) (Zac rfl rfl rfl rfl (nts_get (xs := ys) (i := j) (by omega)))) (fun _ => rfl) rfl rfl ?_
    refine DChG.op rfl (fun _ => q_move rfl) (fun _ => rfl) rfl rfl ?_
    refine DChG.op rfl (fun _ => q_move rfl) (fun _ => rfl) rfl rfl ?_
    refine DChG.op rfl (fun _ => Zah rfl rfl rfl rfl rfl (by omega) (by omega) (idx_nat rfl)) (fun _ => rfl) rfl rfl ?_
    refine DChG.opC rfl (fun S hn hd hc => OpQ.pre (H1 := [rowB (bif false then ys.set i (ys.getD j 0) else ys)]) (by simp only [(clF hc hn (by kernel_rfl) : S 13 = false)]) (Zac rfl rfl rfl rfl (nts_get (xs := ys) (i := i) (by omega)))) (fun _ => rfl) rfl rfl ?_
    refine DChG.op rfl (fun _ => Zah rfl rfl rfl rfl rfl (by omega) (by omega) (idx_nat rfl)) (fun _ => rfl) rfl rfl ?_
    refine DChG.stC rfl (fun S hn hd hc => OpN.both (H1 := [rowB (bif false then ys.set i (ys.getD j 0) else ys)]) (H3 := [rowB (bif true then ys.set i (ys.getD j 0) else ys)]) (by simp only [hn]) rfl (Zad rfl rfl rfl rfl rfl rfl (by simp; omega) nts_set)) rfl rfl ?_
    refine .nil (fun hG => AOps.fin (n := 1) (as' := []) (H' := [rowB (ys.set i (ys.getD j 0))]) rfl rfl rfl ?_)
    refine y_op rfl (Zah rfl rfl rfl rfl rfl (by omega) (by omega) (idx_nat rfl)) ?_
    refine y_new rfl (Zad rfl rfl rfl rfl rfl rfl (by simp; omega) nts_set) ?_
    refine AOps.nil (ARun.inBlock (ARun.region ?_)); refine xm ?_
    refine y_op rfl (q_add rfl rfl (nadd1_i64 (by omega))) ?_
    refine xm ?_
    refine y_op rfl (q_sub rfl rfl (nsub1_i64 (by omega) (by omega))) ?_
    refine xa ?_; refine xa ?_; refine AOps.nil ?_
    refine ARun.again (ih ((i + 1, ((j - 1 : Nat) : Int), (ys.set i (ys.getD j 0)).set j (ys.getD i 0))) ?_ ?_) ?_ ?_
    · exact ⟨by dsimp only; omega, hinv.step (by omega) hj⟩
    · (dsimp only; omega)
    · (repeat' first | exact envLe_nil | apply envLe_any | apply envLe_same)
    rfl
  have h := of_decide_eq_false h
  refine ARun.exit rfl ?_
  refine ARun.nil ?_
  refine ⟨_, _, _, .nil, .nil, ?_⟩
  exact ⟨rfl, by rw [hinv.fin (by omega)]; rfl⟩
end Go.V
set_option maxHeartbeats 2000000
set_option synthInstance.maxSize 100000
set_option synthInstance.maxHeartbeats 2000000
namespace Go.V
open Go.RowKit Go.Proofs
def fig (d : Nat) : Nat := if d < 10 then 48 + d else 87 + d
def txt (b v : Nat) : List Nat := if v = 0 then [48] else ((dgs b v).map fig).reverse
abbrev figS : ByteArray := ⟨#[48, 49, 50, 51, 52, 53, 54, 55, 56, 57, 97, 98, 99, 100, 101, 102, 103, 104, 105, 106, 107, 108, 109, 110, 111, 112, 113, 114, 115, 116, 117, 118, 119, 120, 121, 122]⟩
theorem figS_size : figS.size = 36 := rfl
theorem fig_all : ∀ d : _root_.Fin 36, (figS[d.val]'d.isLt).toNat = fig d.val := by decide
theorem fig_get {d : Nat} (h : d < 36) (h' : ((d : Nat) : Int).toNat < figS.size) : ((figS[((d : Nat) : Int).toNat]'h').toNat : Int) = ((fig d : Nat) : Int) := congrArg Int.ofNat (fig_all ⟨d, h⟩)
theorem dgs_len {b : Nat} (hb : 2 ≤ b) : ∀ (n v : Nat), v < 2 ^ n → (dgs b v).length ≤ n := by
  intro n
  induction n with
  | zero => intro v h; have : v = 0 := by omega
            subst this; rw [dgs_zero]; exact Nat.le_refl _
  | succ n ih =>
    intro v h
    rcases Nat.eq_zero_or_pos v with h0 | h0
    · subst h0; rw [dgs_zero]; exact Nat.zero_le _
    rw [dgs_pos hb h0, List.length_cons]
    have : v / b < 2 ^ n := by
      rw [Nat.div_lt_iff_lt_mul (by omega)]
      have : 2 ^ n * 2 ≤ 2 ^ n * b := Nat.mul_le_mul_left _ hb
      rw [Nat.pow_succ] at h
      omega
    have := ih _ this
    omega
theorem B_pow2 (n : Nat) : B ^ n = 2 ^ (32 * n) := by rw [Nat.pow_mul]; rfl
theorem dgs_fit {b a : Nat} (hb : 2 ≤ b) (ha : (lim a).length ≤ 1024) : (dgs b a).length ≤ 32768 := by
  suffices h : ∀ N, 32 * (lim a).length ≤ N → (dgs b a).length ≤ N from h _ (by omega)
  intro N hN
  apply dgs_len hb
  have h1 := ln_lt a
  rw [B_pow2] at h1
  exact Nat.lt_of_lt_of_le h1 (Nat.pow_le_pow_right (by decide) hN)
abbrev bts (b a k : Nat) : List D := nts .u8 (((dgs b a).take k).map fig)
theorem bts_succ {b a k d : Nat} (h : (dgs b a)[k]? = some d) : bts b a (k + 1) = bts b a k ++ [.int .u8 ((fig d : Nat) : Int)] := by
  show (((dgs b a).take (k + 1)).map fig).map _ = _
  rw [List.take_add_one, h]
  simp
theorem getJ {α : Type} {a b c d e x : α} {J : List α} : (a :: b :: c :: d :: e :: (J ++ [x]))[5 + J.length]? = some x := by
  rw [show 5 + J.length = J.length + 5 by omega]
  simp
theorem setJ {α : Type} {a b c d e x y : α} {J : List α} : (a :: b :: c :: d :: e :: (J ++ [x])).set (5 + J.length) y = a :: b :: c :: d :: e :: (J ++ [y]) := by
  rw [show 5 + J.length = J.length + 5 by omega]
  simp
theorem srcD_row {H : Heap} {id n : Nat} {o : AObj} (h : H[id]? = some (some o)) : srcD H (.row id n) = some (n, o.cells) := by simp only [srcD, h]
def RT (b a k : Nat) (o0 : Option AObj) (T : Heap) : Prop := ∃ J : Heap, o0 = some ⟨[growD (5 + J.length) (bts b a k)], Zgg, 1, true, none⟩ ∧ T = growT J Zci (bts b a k)
theorem ZkT (a b : Nat) (ha : (lim a).length ≤ 1024) (hb2 : 2 ≤ b) (hb36 : b ≤ 36) : PC C Zj7 [numD a, .int .i64 (b : Int)] (fun o => o = .ret (.str (bytesOf (txt b a)))) := by
  have hfit := dgs_fit hb2 ha
  refine PC.rn Zeg ZiW ZiX (rs := [.tmp 4]) (by rw [ZiY]) ?_
  refine ARun.seq (ARun.region ?_); refine xa ?_; refine AOps.nil (ARun.seq (ARun.region ?_))
  refine y_new rfl (Zag rfl rfl rfl rfl) ?_
  refine AOps.nil (ARun.seq (ARun.seq (ARun.region ?_))); refine xm ?_; refine xm ?_
  refine Zay rfl rfl rfl rfl (Znt a b _) ?_ (by rintro _ _ ⟨h, _⟩; cases h)
  rintro _ _ ⟨h, rfl⟩
  injection h with h
  subst h
  refine AOps.nil (ARun.block ?_)
  refine ARun.rangeFn (n := 3) rfl rfl rfl (ZlC a b ha hb2 hb36 [10] rfl _ _ _ (RT b a) (fun k c d o0 T hd hR => ?_) _ [] ?_) ?_ ?_
  · obtain ⟨J, rfl, rfl⟩ := hR
    have hk := (List.getElem?_eq_some_iff.1 hd).1
    have hd36 : d < 36 := Nat.lt_of_lt_of_le (dgs_lt hb2 a d (List.mem_of_getElem? hd)) hb36
    have hbl : (bts b a k).length + 1 ≤ 40000 := by
      simp only [nts, List.length_map, List.length_take]; omega
    refine ARun.env0 (by simp only [setL, List.zip_cons_cons, List.zip_nil_right, List.set_cons_succ, List.set_cons_zero]; exact rfl) ?_
    refine ARun.region ?_; refine xa ?_; refine AOps.nil ?_
    refine ARun.beginRoundI rfl rfl ?_
    refine ARun.block ?_
    refine ARun.drawnAll 6 mixC (by kernel_rfl) (by kernel_rfl) (allOf (by kernel_rfl : _ = [[0, 1, 2, 3, 4, 5], [1, 0, 2, 3, 4, 5], [1, 2, 0, 3, 4, 5], [1, 2, 3, 0, 4, 5]]) (consAll ?_ (consAll ?_ (consAll ?_ (consAll ?_ nilAll)))))
    · skip
      refine yo_at ?_
      refine yo_op rfl (Zac rfl rfl rfl rfl rfl) ?_
      refine yo_at ?_
      refine yo_op rfl (q_move rfl) ?_
      refine yo_at ?_
      refine yo_op rfl (Zak rfl rfl rfl (by omega) (by rw [figS_size]; omega) (fig_get hd36 _)) ?_
      refine yo_at ?_
      refine yo_new rfl (Zai rfl rfl rfl rfl rfl rfl rfl rfl rfl rfl rfl (by decide) (by decide)) ?_
      refine yo_at ?_
      refine yo_grow rfl rfl rfl rfl rfl rfl rfl rfl rfl rfl (by show (_ + 1) * 1 ≤ _; omega) (by omega) (fun J' => ?_)
      refine yo_at ?_
      refine yo_new rfl (Zad rfl rfl rfl (okCell_grow (B := [_, _, _, _, _]) rfl) rfl rfl (Nat.le_of_ble_eq_true rfl) rfl) ?_
      refine yo_nil ?_
      refine ARun.inBlock ?_
      refine ARun.nil ⟨rfl, rfl, _, _, ?_, rfl⟩
      unfold RT
      rw [bts_succ hd]
      exact ⟨J', rfl, rfl⟩
    · skip
      refine yo_at ?_
      refine yo_op rfl (q_move rfl) ?_
      refine yo_at ?_
      refine yo_op rfl (Zac rfl rfl rfl rfl rfl) ?_
      refine yo_at ?_
      refine yo_op rfl (Zak rfl rfl rfl (by omega) (by rw [figS_size]; omega) (fig_get hd36 _)) ?_
      refine yo_at ?_
      refine yo_new rfl (Zai rfl rfl rfl rfl rfl rfl rfl rfl rfl rfl rfl (by decide) (by decide)) ?_
      refine yo_at ?_
      refine yo_grow rfl rfl rfl rfl rfl rfl rfl rfl rfl rfl (by show (_ + 1) * 1 ≤ _; omega) (by omega) (fun J' => ?_)
      refine yo_at ?_
      refine yo_new rfl (Zad rfl rfl rfl (okCell_grow (B := [_, _, _, _, _]) rfl) rfl rfl (Nat.le_of_ble_eq_true rfl) rfl) ?_
      refine yo_nil ?_
      refine ARun.inBlock ?_
      refine ARun.nil ⟨rfl, rfl, _, _, ?_, rfl⟩
      unfold RT
      rw [bts_succ hd]
      exact ⟨J', rfl, rfl⟩
    · skip
      refine yo_at ?_
      refine yo_op rfl (q_move rfl) ?_
      refine yo_at ?_
      refine yo_op rfl (Zak rfl rfl rfl (by omega) (by rw [figS_size]; omega) (fig_get hd36 _)) ?_
      refine yo_at ?_
      refine yo_op rfl (Zac rfl rfl rfl rfl rfl) ?_
      refine yo_at ?_
      refine yo_new rfl (Zai rfl rfl rfl rfl rfl rfl rfl rfl rfl rfl rfl (by decide) (by decide)) ?_
      refine yo_at ?_
      refine yo_grow rfl rfl rfl rfl rfl rfl rfl rfl rfl rfl (by show (_ + 1) * 1 ≤ _; omega) (by omega) (fun J' => ?_)
      refine yo_at ?_
      refine yo_new rfl (Zad rfl rfl rfl (okCell_grow (B := [_, _, _, _, _]) rfl) rfl rfl (Nat.le_of_ble_eq_true rfl) rfl) ?_
      refine yo_nil ?_
      refine ARun.inBlock ?_
      refine ARun.nil ⟨rfl, rfl, _, _, ?_, rfl⟩
      unfold RT
      rw [bts_succ hd]
      exact ⟨J', rfl, rfl⟩
    refine yo_at ?_
    refine yo_op rfl (q_move rfl) ?_
    refine yo_at ?_
    refine yo_op rfl (Zak rfl rfl rfl (by omega) (by rw [figS_size]; omega) (fig_get hd36 _)) ?_
    refine yo_at ?_
    refine yo_new rfl (Zai rfl rfl rfl rfl rfl rfl rfl rfl rfl rfl rfl (by decide) (by decide)) ?_
    refine yo_at ?_
    refine yo_op rfl (Zac rfl rfl rfl rfl rfl) ?_
    refine yo_at ?_
    refine yo_grow rfl rfl rfl rfl rfl rfl rfl rfl rfl rfl (by show (_ + 1) * 1 ≤ _; omega) (by omega) (fun J' => ?_)
    refine yo_at ?_
    refine yo_new rfl (Zad rfl rfl rfl (okCell_grow (B := [_, _, _, _, _]) rfl) rfl rfl (Nat.le_of_ble_eq_true rfl) rfl) ?_
    refine yo_nil ?_
    refine ARun.inBlock ?_
    refine ARun.nil ⟨rfl, rfl, _, _, ?_, rfl⟩
    unfold RT
    rw [bts_succ hd]
    exact ⟨J', rfl, rfl⟩
  · exact ⟨[], rfl, rfl⟩
  · rintro d H2 ⟨h, o0', T', hR, rfl⟩
    injection h with h
    subst h
    obtain ⟨J, rfl, rfl⟩ := hR
    refine ⟨.ready, rfl, ?_⟩
    have hfull : bts b a (dgs b a).length = nts .u8 ((dgs b a).map fig) := by show (((dgs b a).take _).map fig).map _ = _; rw [List.take_length]
    rw [hfull]
    rcases Nat.eq_zero_or_pos a with h0 | h0
    · subst h0
      rw [show dgs b 0 = [] from dgs_zero b]
      refine ARun.hp (H' := some ⟨[.nilsl], Zgg, 1, true, none⟩ :: some ⟨[numD 0], Zd6, 1, true, none⟩ :: some ⟨[.int .i64 (b : Int)], t_int, 1, true, none⟩ :: defsO :: none :: J) rfl ?_
      refine ARun.inBlock (ARun.seq (ARun.seq (ARun.region ?_)))
      refine y_op rfl (Zac rfl rfl rfl rfl rfl) ?_
      refine y_op rfl (ZlS rfl rfl) ?_
      refine xi ?_; refine AOps.nil ?_
      refine ARun.ite rfl (fun hz => ?_) (fun hz => ?_)
      · skip
        refine ARun.seq (ARun.region ?_); refine xa ?_; refine AOps.nil ?_
        refine ARun.ret ?_
        exact ⟨⟨_, rfl, rfl, rfl⟩, _, _, _, .tmp rfl .nil, .cons (.same _) .nil, rfl, rfl⟩
      exact absurd rfl hz
    have hne : (dgs b a).map fig ≠ [] := by rw [dgs_pos hb2 h0]; simp
    have htx : txt b a = ((dgs b a).map fig).reverse := by unfold txt; rw [if_neg (by omega)]
    have hln : ((dgs b a).map fig).length ≤ 32768 := by simpa using hfit
    have hu8 : ∀ x ∈ (dgs b a).map fig, x < 256 := by
      intro x hx
      obtain ⟨d, hd, rfl⟩ := List.mem_map.1 hx
      have := dgs_lt hb2 a d hd
      unfold fig; split <;> omega
    rw [htx]
    generalize (dgs b a).map fig = X at *
    obtain ⟨x, l, rfl⟩ := List.exists_cons_of_ne_nil hne
    refine ARun.hp (H' := some ⟨[.row (5 + J.length) (x :: l).length], Zgg, 1, true, none⟩ :: some ⟨[numD 0], Zd6, 1, true, none⟩ :: some ⟨[.int .i64 (b : Int)], t_int, 1, true, none⟩ :: defsO :: none :: (J ++ [rowB (x :: l)])) (by simp [growD, growT, nts]) ?_
    refine ARun.inBlock (ARun.seq (ARun.seq (ARun.region ?_)))
    refine y_op rfl (Zac rfl rfl rfl rfl rfl) ?_
    refine y_op rfl (ZaF rfl getJ rfl) ?_
    refine xi ?_; refine AOps.nil ?_
    refine ARun.ite rfl (fun hz => ?_) (fun hz => ?_)
    · skip
      exfalso
      simp at hz
      omega
    refine ARun.skip (ARun.seq (ARun.region ?_))
    refine y_op rfl (Zac rfl rfl rfl rfl rfl) ?_
    refine Zay rfl rfl rfl rfl (HC.frame1 (o' := ⟨nts .u8 (x :: l).reverse, Zci, 1, true, none⟩) (ZlD (x :: l) (by omega)) rfl rfl rfl rfl (pures_nts _) (pures_nts _) rfl getJ) ?_ (by rintro _ _ ⟨h, _⟩; cases h)
    rintro _ _ ⟨h, rfl⟩
    injection h with h
    subst h
    refine AOps.hp setJ ?_
    refine AOps.nil (ARun.seq (ARun.region ?_))
    refine y_op rfl (Zac rfl rfl rfl rfl rfl) ?_
    refine y_op rfl (Zil (n := (x :: l).length) (l := (x :: l).reverse) rfl (by kernel_rfl) rfl rfl (srcD_row (o := ⟨nts .u8 (x :: l).reverse, Zci, 1, true, none⟩) getJ) (by simp)) ?_
    refine xa ?_; refine AOps.nil ?_
    refine ARun.ret ?_
    exact ⟨⟨_, rfl, rfl, rfl⟩, _, _, _, .tmp rfl .nil, .cons (.same _) .nil, rfl, rfl⟩
  rintro d H2 ⟨h, _⟩
  cases h
end Go.V
