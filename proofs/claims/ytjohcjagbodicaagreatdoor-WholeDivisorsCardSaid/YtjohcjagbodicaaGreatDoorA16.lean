/- A part of the proof: abstract values, rules for the steps of the program's form, and contracts of its functions, each proved; no condition. -/
import Derived.Test.YtjohcjagbodicaaGreatDoorA15
import Derived.Test.YtjohcjagbodicaaGreatDoorTie
import Derived.Test.YtjohcjagbodicaaGreatDoorCards
import Derived.ProofKit
import Derived.OpenShut
import Derived.LaidMore
import Derived.Lay
import Derived.SevenTiedAt
import Derived.Carry
import Derived.Stop.Joined
set_option linter.unusedVariables false
set_option linter.unusedSimpArgs false
set_option maxHeartbeats 4000000
set_option maxRecDepth 100000
set_option synthInstance.maxSize 100000
set_option synthInstance.maxHeartbeats 2000000
namespace Go.V
open Go.RowKit Go.Proofs
theorem divW_euclid {a m : Int} (hm : 0 < m) : (divW (awayZ 3 (a.tdiv m) (a.tmod m) a m) a m).2 = a % m := by
  have haw : awayZ 3 (a.tdiv m) (a.tmod m) a m = decide (a < 0) := rfl
  rw [haw]
  unfold divW
  by_cases h : a < 0
  · rw [decide_eq_true h]
    have e := Int.tmod_eq_emod (a := a) (b := m)
    by_cases h0 : a.tmod m = 0
    · rw [if_pos (.inl h0)]
      dsimp only
      have : a % m = 0 := by
        have hd : m ∣ a := Int.dvd_of_tmod_eq_zero h0
        exact Int.emod_eq_zero_of_dvd hd
      omega
    · rw [if_neg (by rintro (h1 | h1); exact h0 h1; cases h1)]
      dsimp only
      have hnd : ¬ m ∣ a := fun hd => h0 (Int.tmod_eq_zero_of_dvd hd)
      rw [if_neg (by rintro (h1 | h1); omega; exact hnd h1)] at e
      simp only [sgnd, cond_true]
      omega
  · rw [decide_eq_false h, if_pos (.inr rfl)]
    exact Int.tmod_eq_emod_of_nonneg (by omega)
theorem pc_s_rest (a m : Int) (ha : (lim a.natAbs).length ≤ 16777214) (hb : (lim m.natAbs).length ≤ 16777214) (hm : 0 < m) : PC C n_R02_rest [intD a, intD m] (fun o => o = .ret (intD (a % m))) := by
  have hr := divW_euclid (a := a) hm
  refine PC.run fn_R02_rest en_R02_rest rfl nt_R02_rest rfl (rs := [.cell 4 25]) (by rw [rs_R02_rest]) (by simp only [List.length_cons, List.length_nil, Nat.reduceAdd, Nat.reduceSub, List.replicate_succ, List.replicate_zero, List.cons_append, List.nil_append]; exact rfl) ?_
  refine ARun.seq ?_
  refine ARun.region ?_
  refine y_op rfl (q_boxF rfl rfl rfl rfl) ?_
  refine y_op rfl (q_boxF rfl rfl rfl rfl) ?_
  refine y_new rfl (n_alloc rfl rfl rfl rfl) ?_
  refine AOps.nil ?_
  refine ARun.seq ?_
  refine ARun.region ?_
  refine y_op rfl (q_loadAgg rfl rfl rfl rfl rfl) ?_
  refine y_op rfl (q_loadAgg rfl rfl rfl rfl rfl) ?_
  refine y_op rfl (q_call rfl rfl (pc_s_Quotient a m 3 ha hb (by omega))) ?_
  rw [hr]
  refine y_op rfl (q_fieldA Tryz.underlying32 rfl rfl rfl rfl rfl rfl) ?_
  refine y_new rfl (n_storeN rfl rfl rfl rfl rfl rfl rfl rfl (Nat.le_of_ble_eq_true rfl) rfl) ?_
  refine AOps.nil ?_
  refine ARun.ret ?_
  refine ⟨_, _, _, ResR.cellA rfl rfl rfl rfl rfl rfl .nil, .cons (.same _) .nil, rfl, ?_⟩
  rfl
theorem pc_s_One : PC C n_R02_One [] (fun o => o = .ret (intD 1)) := by
  refine PC.run fn_R02_One en_R02_One rfl nt_R02_One rfl (rs := [.cell 0 25]) (by rw [rs_R02_One]) (by simp only [List.length_cons, List.length_nil, Nat.reduceAdd, Nat.reduceSub, List.replicate_succ, List.replicate_zero, List.cons_append, List.nil_append]; exact rfl) ?_
  refine ARun.seq ?_
  refine ARun.region ?_
  refine y_new rfl (n_alloc rfl rfl rfl rfl) ?_
  refine AOps.nil ?_
  refine ARun.seq ?_
  refine ARun.region ?_
  refine y_op rfl (q_call rfl rfl (pc_s_FromInt 1 (by decide) (by decide))) ?_
  refine y_new rfl (n_storeN rfl rfl rfl rfl rfl rfl rfl rfl (Nat.le_of_ble_eq_true rfl) rfl) ?_
  refine AOps.nil ?_
  refine ARun.ret ?_
  refine ⟨_, _, _, ResR.cellA rfl rfl rfl rfl rfl rfl .nil, .cons (.same _) .nil, rfl, ?_⟩
  rfl
theorem pc_r_Gcd (a b : Nat) (ha : (lim a).length ≤ 16777216) (hb : (lim b).length ≤ 16777216) : PC C n_R01_Gcd [numD a, numD b] (fun o => o = .ret (numD (Nat.gcd a b))) := by
  refine PC.run fn_R01_Gcd en_R01_Gcd rfl nt_R01_Gcd rfl (rs := [.tmp 4]) (by rw [rs_R01_Gcd]) (by simp only [List.length_cons, List.length_nil, Nat.reduceAdd, Nat.reduceSub, List.replicate_succ, List.replicate_zero, List.cons_append, List.nil_append]; exact rfl) ?_
  refine ARun.seq ?_
  refine ARun.region ?_
  refine y_op rfl (q_assign rfl) ?_
  refine AOps.nil ?_
  refine ARun.seq ?_
  refine ARun.block ?_
  refine ARun.loopI (S := Nat × Nat) (fun σ : Nat × Nat => [(5, .any), (6, .any), (7, .any), (8, .any), (9, .any), (10, .any), (11, .any), (12, .any), (13, .any), (14, .any), (0, numD σ.1), (1, numD σ.2)]) (fun σ : Nat × Nat => []) (fun σ : Nat × Nat => Nat.gcd σ.1 σ.2 = Nat.gcd a b ∧ (lim σ.1).length ≤ 16777216 ∧ (lim σ.2).length ≤ 16777216) (fun σ : Nat × Nat => σ.2) ((a, b)) ?_ ?_ ?_ ?_
  · exact ⟨rfl, ha, hb⟩
  · (repeat' first | exact envLe_nil | apply envLe_any | apply envLe_same)
  · rfl
  rintro ⟨r, s⟩ hinv ih
  dsimp only at hinv ih ⊢
  obtain ⟨hg, hr, hs⟩ := hinv
  refine ARun.seq ?_
  refine ARun.seq ?_
  refine ARun.region ?_
  refine y_op rfl (q_move rfl) ?_
  first
    | refine y_op rfl (q_lenSl rfl rfl) ?_
    | refine y_op rfl (q_lenRow rfl rfl rfl) ?_
    | refine y_op rfl (q_lenNil rfl rfl) ?_
    | refine y_op rfl (q_lenSub rfl rfl) ?_
  refine y_op rfl (q_int rfl rfl rfl) ?_
  refine AOps.nil ?_
  refine ARun.ite rfl (fun h => ?_) (fun h => ?_)
  · skip
    have hs0 : 0 < s := by
      have : (lim s).length ≠ 0 := by omega
      exact Nat.pos_of_ne_zero (ln_pos.1 (by omega))
    refine ARun.skip ?_
    refine ARun.block ?_
    refine ARun.seq ?_
    refine ARun.region ?_
    refine y_op rfl (q_move rfl) ?_
    refine y_op rfl (q_move rfl) ?_
    refine y_op rfl (q_call rfl rfl (pc_r_Div r s hr hs hs0)) ?_
    refine y_allocF rfl rfl rfl rfl rfl rfl rfl rfl rfl rfl rfl ?_
    refine AOps.nil ?_
    refine ARun.seq ?_
    refine ARun.region ?_
    refine y_op rfl (q_move rfl) ?_
    refine y_op rfl (q_assign rfl) ?_
    refine AOps.nil ?_
    refine ARun.region ?_
    first
      | refine y_op rfl (q_fldP rfl rfl rfl (by decide)) ?_
      | refine y_op rfl (q_fldS rfl rfl rfl (by decide)) ?_
    first
      | refine y_op rfl (q_loadP rfl rfl rfl rfl rfl) ?_
      | refine y_op rfl (q_load rfl rfl rfl rfl) ?_
      | refine y_op rfl (q_load rfl rfl rfl (lim_load (by omega))) ?_
      | refine y_op rfl (q_load rfl rfl rfl (nts_load (by omega))) ?_
      | refine y_op rfl (q_loadP rfl rfl rfl rfl (nts_get (by omega))) ?_
      | refine y_op rfl (q_loadP rfl rfl rfl rfl (win_get (by assumption) (by omega))) ?_
    refine y_op rfl (q_assign rfl) ?_
    refine AOps.nil ?_
    refine ARun.inBlock ?_
    refine ARun.again (ih ((s, r % s)) ?_ ?_) ?_ ?_
    · exact ⟨by rw [← hg]; dsimp only; rw [Nat.gcd_comm s, ← Nat.gcd_rec, Nat.gcd_comm], hs, Nat.le_trans (ln_mono (Nat.le_of_lt (Nat.mod_lt _ hs0))) hs⟩
    · exact Nat.mod_lt _ hs0
    · (repeat' first | exact envLe_nil | apply envLe_any | apply envLe_same)
    · rfl
  · skip
    have hs0 : s = 0 := by
      apply Classical.byContradiction
      intro hn
      have := ln_pos.2 hn
      omega
    subst hs0
    refine ARun.exit rfl ?_
    refine ARun.seq ?_
    refine ARun.region ?_
    refine y_op rfl (q_move rfl) ?_
    refine y_op rfl (q_assign rfl) ?_
    refine AOps.nil ?_
    refine ARun.ret ?_
    refine ⟨_, _, _, .tmp rfl .nil, .cons (.same _) .nil, rfl, ?_⟩
    rw [← hg, Nat.gcd_zero_right]; rfl
end Go.V
/- A cell of an object, told anew. -/
namespace Go.V
open Go.RowKit
theorem ARun.recell {C : Ctx} {Q : Post} {k : List Item} {env : List D} {H H' : Heap} {df : List ADef} {d d' : D} {i j : Nat} {o : AObj} (hd : ∀ (w : World) (L : Nat → Prop) (μ : List Nat) (H : Heap) (v : Value), VR w L μ H d v → VR w L μ H d' v) (ho : H[i]? = some (some o)) (hj : o.cells[j]? = some d) [pl : PutL H i (some { o with cells := o.cells.set j d' }) H'] (h : ARun C Q k env H' df) : ARun C Q k env H df := by
  have hpe := pl.eq
  subst hpe
  have hil : i < H.length := (List.getElem?_eq_some_iff.1 ho).1
  refine ⟨fun L0 w0 μ0 H0 w μ a hs hv hdf he b cs hrd => ?_⟩
  have hcase : ∀ (i' : Nat) (o' : AObj), (H.set i (some { o with cells := o.cells.set j d' }))[i']? = some (some o') → (i' ≠ i ∧ H[i']? = some (some o')) ∨ (i' = i ∧ o' = { o with cells := o.cells.set j d' }) := by
    intro i' o' h1
    by_cases e : i = i'
    · subst e; rw [List.getElem?_set_self hil] at h1; injection h1 with h1; injection h1 with h1; exact .inr ⟨rfl, h1.symm⟩
    · rw [List.getElem?_set_ne e] at h1; exact .inl ⟨fun x => e x.symm, h1⟩
  have evo : Evo w w μ μ H (H.set i (some { o with cells := o.cells.set j d' })) := by
    refine ⟨rfl, rfl, rfl, Nat.le_refl _, fun _ _ _ => rfl, fun c _ hl => ?_, fun _ _ h => h, fun i' x hx => ?_⟩
    · obtain ⟨i', o', h1, h2, h3⟩ := hl
      rcases hcase i' o' h1 with ⟨_, k1⟩ | ⟨rfl, rfl⟩
      · exact ⟨i', o', k1, h2, h3⟩
      · exact ⟨i', o, ho, h2, h3⟩
    · by_cases e : i = i'
      · subst e
        rw [ho] at hx
        injection hx with hx
        subst hx
        exact ⟨_, List.getElem?_set_self hil, fun o' e => by injection e with e; subst e; exact ⟨o, rfl, rfl, rfl, by simp, fun _ cur _ hw => ⟨cur, hw, rfl⟩⟩⟩
      · exact ⟨x, by rw [List.getElem?_set_ne e]; exact hx, fun o' e => ⟨o', e, rfl, rfl, rfl, fun _ cur _ hw => ⟨cur, hw, rfl⟩⟩⟩
  have st := evo.step L0
  have hs' : SR C L0 w μ (H.set i (some { o with cells := o.cells.set j d' })) := by
    refine hs.next evo (by rw [List.length_set]; exact hs.len) (fun i' o' c h1 h2 => ?_) (fun i1 i2 o1 o2 c q1 q2 q3 q4 ql => ?_) (fun i' o' c q1 q2 => ?_)
    · rcases hcase i' o' h1 with ⟨_, k1⟩ | ⟨rfl, rfl⟩
      · exact hs.obj i' o' c k1 h2
      · have hob := hs.obj _ o c ho h2
        have hsp := hob.sp_cells hj
        obtain ⟨cur, c1, c2, c3⟩ := hob.row hsp
        refine .of_row hsp ⟨cur, c1, by simpa using c2, fun jj dd hdd => ?_⟩
        by_cases e : j = jj
        · subst e
          have hjl : j < o.cells.length := (List.getElem?_eq_some_iff.1 hj).1
          simp only [List.getElem?_set_self hjl] at hdd
          injection hdd with hdd
          subst hdd
          obtain ⟨v, m1, m2, m3⟩ := c3 j d hj
          exact ⟨v, m1, m2, hd _ _ _ _ _ m3⟩
        · simp only [List.getElem?_set_ne e] at hdd
          exact c3 jj dd hdd
    · rcases hcase i1 o1 q1 with ⟨_, k1⟩ | ⟨rfl, rfl⟩ <;> rcases hcase i2 o2 q2 with ⟨_, m1⟩ | ⟨rfl, rfl⟩
      · exact hs.inj i1 i2 o1 o2 c k1 m1 q3 q4 ql
      · exact hs.inj i1 _ o1 o c k1 ho q3 q4 ql
      · exact hs.inj _ i2 o o2 c ho m1 q3 q4 ql
      · rfl
    · rcases hcase i' o' q1 with ⟨_, k1⟩ | ⟨rfl, rfl⟩
      · exact hs.own i' o' c k1 q2
      · exact hs.own _ o c ho q2
  exact h.out L0 w0 μ0 H0 w μ a hs' (VRs.step st hv) (DfR.step st hdf) (he.trans evo) b cs hrd
theorem vr_nil0 (w : World) (L : Nat → Prop) (μ : List Nat) (H : Heap) (v : Value) (h : VR w L μ H .nilsl v) : VR w L μ H (.sl 0 []) v := by
  simp only [VR] at h ⊢
  exact ⟨none, 0, h, Nat.le_refl _, Nat.zero_le _, fun x => (x rfl).elim⟩
end Go.V
set_option maxHeartbeats 4000000
set_option maxRecDepth 100000
set_option synthInstance.maxSize 100000
set_option synthInstance.maxHeartbeats 2000000
namespace Go.V
open Go.RowKit Go.Proofs
/-- How the specification's search for an inverse stands: the last two rests, and their factors' magnitudes and sign. -/
structure Iv (a m : Int) (b c X Y : Nat) (s : Int) : Prop where
  sg : s = 1 ∨ s = -1
  e1 : ∃ k : Int, a * (-s * X) + m * k = b
  e2 : ∃ k : Int, a * (s * Y) + m * k = c
  sum : X * c + Y * b = m.natAbs
  hX : X ≤ m.natAbs
  hb : 0 < b
  g : Nat.gcd b c = 1
  bm : b ≤ m.natAbs
  cm : c ≤ m.natAbs
theorem Iv.init {a m x0 y0 : Int} (hm : 0 < m) (h : a * x0 + m * y0 = 1) : Iv a m m.natAbs (a % m).natAbs 0 1 1 := by
  have hr := Int.emod_nonneg a (show m ≠ 0 by omega)
  have hr2 := Int.emod_lt_of_pos a hm
  have hd := Int.mul_ediv_add_emod a m
  refine ⟨.inl rfl, ⟨1, by simp; omega⟩, ⟨-(a / m), ?_⟩, by simp, Nat.zero_le _, by omega, ?_, Nat.le_refl _, by omega⟩
  · have : ((a % m).natAbs : Int) = a % m := by omega
    rw [this, Int.mul_neg]
    show a * (1 * 1) + -(m * (a / m)) = a % m
    rw [Int.one_mul, Int.mul_one]
    omega
  · have hg1 : ((Nat.gcd m.natAbs (a % m).natAbs : Nat) : Int) ∣ m := Int.ofNat_dvd_left.2 (Nat.gcd_dvd_left _ _)
    have hg2 : ((Nat.gcd m.natAbs (a % m).natAbs : Nat) : Int) ∣ (a % m) := Int.ofNat_dvd_left.2 (Nat.gcd_dvd_right _ _)
    have hg3 : ((Nat.gcd m.natAbs (a % m).natAbs : Nat) : Int) ∣ a := by
      have h5 := Int.dvd_add (Int.dvd_trans hg1 (Int.dvd_mul_right m (a / m))) hg2
      rwa [hd] at h5
    have hg4 : ((Nat.gcd m.natAbs (a % m).natAbs : Nat) : Int) ∣ 1 := by
      rw [← h]; exact Int.dvd_add (Int.dvd_trans hg3 (Int.dvd_mul_right _ _)) (Int.dvd_trans hg1 (Int.dvd_mul_right _ _))
    have := Int.le_of_dvd (by decide) hg4
    have hpos : 0 < Nat.gcd m.natAbs (a % m).natAbs := Nat.gcd_pos_of_pos_left _ (by omega)
    omega
theorem Iv.step {a m : Int} {b c X Y : Nat} {s : Int} (h : Iv a m b c X Y s) (hc : 0 < c) : Iv a m c (b % c) Y (X + b / c * Y) (-s) := by
  obtain ⟨k1, e1⟩ := h.e1
  obtain ⟨k2, e2⟩ := h.e2
  have hdm := Nat.div_add_mod b c
  have hdmZ : (c : Int) * ((b / c : Nat) : Int) + ((b % c : Nat) : Int) = (b : Int) := by rw [← Int.natCast_mul, ← Int.natCast_add, hdm]
  have hY : Y ≤ m.natAbs := by
    have := h.sum
    have h2 : Y * 1 ≤ Y * b := Nat.mul_le_mul_left _ h.hb
    omega
  refine ⟨by rcases h.sg with e | e <;> omega, ⟨k2, ?_⟩, ⟨k1 - ((b / c : Nat) : Int) * k2, ?_⟩, ?_, hY, hc, ?_, h.cm, Nat.le_trans (Nat.le_of_lt (Nat.mod_lt _ hc)) h.cm⟩
  · rw [Int.neg_neg]; exact e2
  · have e3 : ((b % c : Nat) : Int) = (a * (-s * X) + m * k1) - ((b / c : Nat) : Int) * (a * (s * Y) + m * k2) := by
      rw [e1, e2, Int.mul_comm ((b / c : Nat) : Int)]; omega
    rw [e3]
    push_cast
    simp only [Int.mul_add, Int.mul_sub, Int.neg_mul, Int.mul_neg]
    have t1 : a * (s * (((b : Int) / (c : Int)) * (Y : Int))) = ((b : Int) / (c : Int)) * (a * (s * (Y : Int))) := by
      rw [Int.mul_left_comm s, Int.mul_left_comm a]
    have t2 : m * (((b : Int) / (c : Int)) * k2) = ((b : Int) / (c : Int)) * (m * k2) := Int.mul_left_comm _ _ _
    rw [t1, t2]
    omega
  · have h1 := h.sum
    have h2 : Y * b = Y * (c * (b / c)) + Y * (b % c) := by rw [← Nat.mul_add, hdm]
    have h3 : (X + b / c * Y) * c = X * c + Y * (c * (b / c)) := by
      rw [Nat.add_mul]; congr 1
      simp only [Nat.mul_comm, Nat.mul_left_comm]
    omega
  · rw [← h.g, Nat.gcd_comm b c, Nat.gcd_rec c b, Nat.gcd_comm]
theorem Iv.fin {a m x0 y0 : Int} {b X Y : Nat} {s : Int} (hm : 0 < m) (h0 : a * x0 + m * y0 = 1) (h : Iv a m b 0 X Y s) : (-s * X) % m = x0 % m := by
  have hb : b = 1 := by have := h.g; rwa [Nat.gcd_zero_right] at this
  obtain ⟨k, e⟩ := h.e1
  rw [hb] at e
  generalize -s * (X : Int) = x at e
  rw [Int.emod_eq_emod_iff_emod_sub_eq_zero]
  apply Int.emod_eq_zero_of_dvd
  refine ⟨x0 * (y0 - k) + y0 * (x - x0), ?_⟩
  have e1 : x - x0 = (a * x0 + m * y0) * (x - x0) := by rw [h0, Int.one_mul]
  have e2 : a * (x - x0) = m * (y0 - k) := by
    rw [Int.mul_sub, Int.mul_sub]; push_cast at e; omega
  have e3 : (a * x0 + m * y0) * (x - x0) = x0 * (a * (x - x0)) + m * (y0 * (x - x0)) := by
    rw [Int.add_mul, Int.mul_comm a x0, Int.mul_assoc, Int.mul_assoc]
  have e4 : (a * x0 + m * y0) * (x - x0) = m * (x0 * (y0 - k) + y0 * (x - x0)) := by rw [e3, e2, Int.mul_add, Int.mul_left_comm x0 m]
  exact e1.trans e4
theorem iv_zero : cellZ (-(1 : Int) * ((0 : Nat) : Int)) = some ⟨[.bool false, .sl 0 []], t_api_Int, 1, true, none⟩ := by
  show some (AObj.mk [.bool (decide ((0 : Int) < 0)), sln .u32 (lim 0)] _ _ _ _) = _
  rw [lim_zero]; rfl
theorem divW_down {b c : Nat} (hc : 0 < c) : divW (awayZ 2 ((b : Int).tdiv (c : Int)) ((b : Int).tmod (c : Int)) (b : Int) (c : Int)) (b : Int) (c : Int) = (((b / c : Nat) : Int), ((b % c : Nat) : Int)) := by
  have h1 : awayZ 2 ((b : Int).tdiv (c : Int)) ((b : Int).tmod (c : Int)) (b : Int) (c : Int) = false := by
    unfold awayZ
    rw [if_pos rfl, decide_eq_false (by omega), decide_eq_false (by omega)]; rfl
  rw [h1]
  unfold divW
  rw [if_pos (.inr rfl)]
  rfl
theorem sgn_len {s : Int} {X : Nat} (hs : s = 1 ∨ s = -1) : (s * (X : Int)).natAbs = X ∧ (-s * (X : Int)).natAbs = X := by
  rcases hs with rfl | rfl <;> constructor <;> omega
theorem pc_s_inverted (a m x0 y0 : Int) (ha : (lim a.natAbs).length ≤ 8000000) (hl : (lim m.natAbs).length ≤ 8000000) (hm : 0 < m) (h0 : a * x0 + m * y0 = 1) : PC C n_R02_inverted [intD a, intD m] (fun o => o = .ret (intD (x0 % m))) := by
  have hr := Int.emod_nonneg a (show m ≠ 0 by omega)
  have hm1 : (m.natAbs : Int) = m := by omega
  have hr1 : ((a % m).natAbs : Int) = a % m := by omega
  refine PC.run fn_R02_inverted en_R02_inverted rfl nt_R02_inverted rfl (rs := [.cell 4 25]) (by rw [rs_R02_inverted]) (by simp only [List.length_cons, List.length_nil, Nat.reduceAdd, Nat.reduceSub, List.replicate_succ, List.replicate_zero, List.cons_append, List.nil_append]; exact rfl) ?_
  refine ARun.seq ?_
  refine ARun.region ?_
  refine y_op rfl (q_boxF rfl rfl rfl rfl) ?_
  refine y_op rfl (q_boxF rfl rfl rfl rfl) ?_
  refine y_new rfl (n_alloc rfl rfl rfl rfl) ?_
  refine AOps.nil ?_
  refine ARun.seq ?_
  refine ARun.region ?_
  refine y_op rfl (q_loadAgg rfl rfl rfl rfl rfl) ?_
  refine y_new rfl (n_alloc rfl rfl rfl rfl) ?_
  refine y_new rfl (n_storeN rfl rfl rfl rfl rfl rfl rfl rfl (Nat.le_of_ble_eq_true rfl) rfl) ?_
  refine AOps.nil ?_
  refine ARun.seq ?_
  refine ARun.region ?_
  refine y_op rfl (q_loadAgg rfl rfl rfl rfl rfl) ?_
  refine y_op rfl (q_loadAgg rfl rfl rfl rfl rfl) ?_
  refine y_op rfl (q_call rfl rfl (pc_s_rest a m (by omega) (by omega) hm)) ?_
  refine y_new rfl (n_alloc rfl rfl rfl rfl) ?_
  refine y_new rfl (n_storeN rfl rfl rfl rfl rfl rfl rfl rfl (Nat.le_of_ble_eq_true rfl) rfl) ?_
  refine AOps.nil ?_
  refine ARun.seq ?_
  refine ARun.region ?_
  refine y_op rfl (q_build rfl rfl rfl rfl rfl) ?_
  refine y_new rfl (n_alloc rfl rfl rfl rfl) ?_
  refine y_new rfl (n_storeN rfl rfl rfl rfl rfl rfl rfl rfl (Nat.le_of_ble_eq_true rfl) rfl) ?_
  refine AOps.nil ?_
  refine ARun.seq ?_
  refine ARun.region ?_
  refine y_op rfl (q_call rfl rfl (pc_s_One)) ?_
  refine y_new rfl (n_alloc rfl rfl rfl rfl) ?_
  refine y_new rfl (n_storeN rfl rfl rfl rfl rfl rfl rfl rfl (Nat.le_of_ble_eq_true rfl) rfl) ?_
  refine AOps.nil ?_
  refine ARun.seq ?_
  refine ARun.block ?_
  refine ARun.recell (i := 3) (j := 1) vr_nil0 rfl rfl ?_
  refine ARun.loopI (S := Nat × Nat × Nat × Nat × Int) (fun σ : Nat × Nat × Nat × Nat × Int => [(9, .any), (10, .any), (17, .any), (18, .any), (19, .any), (20, .any), (21, .any), (22, .any), (23, .any), (24, .any), (25, .any), (26, .any), (27, .any), (28, .any), (29, .any), (30, .any), (31, .any), (32, .any), (33, .any), (34, .any)]) (fun σ : Nat × Nat × Nat × Nat × Int => [some ⟨[.bool false, .nilsl], t_api_Int, 1, true, none⟩, cellZ (σ.1 : Int), cellZ (σ.2.1 : Int), cellZ (-σ.2.2.2.2 * (σ.2.2.1 : Int)), cellZ (σ.2.2.2.2 * (σ.2.2.2.1 : Int))]) (fun σ : Nat × Nat × Nat × Nat × Int => Iv a m σ.1 σ.2.1 σ.2.2.1 σ.2.2.2.1 σ.2.2.2.2) (fun σ : Nat × Nat × Nat × Nat × Int => σ.2.1) ((m.natAbs, (a % m).natAbs, 0, 1, 1)) ?_ ?_ ?_ ?_
  · exact Iv.init hm h0
  · (repeat' first | exact envLe_nil | apply envLe_any | apply envLe_same)
  · (dsimp only; rw [hm1, hr1, iv_zero]; rfl)
  rintro ⟨b, c, X, Y, s⟩ hinv ih
  dsimp only at hinv ih ⊢
  have lb := Nat.le_trans (ln_mono hinv.bm) hl
  have lc := Nat.le_trans (ln_mono hinv.cm) hl
  have lX := Nat.le_trans (ln_mono hinv.hX) hl
  obtain ⟨aX1, aX2⟩ := sgn_len (X := X) hinv.sg
  obtain ⟨aY1, aY2⟩ := sgn_len (X := Y) hinv.sg
  refine ARun.seq ?_
  refine ARun.seq ?_
  refine ARun.region ?_
  refine y_op rfl (q_fldP rfl rfl rfl (by decide)) ?_
  refine y_op rfl (q_loadP rfl rfl rfl rfl rfl) ?_
  refine y_op rfl (q_lenSl rfl rfl) ?_
  refine y_op rfl (q_int rfl rfl rfl) ?_
  refine AOps.nil ?_
  refine ARun.ite rfl (fun h => ?_) (fun h => ?_)
  · skip
    have hc0 : 0 < c := by
      have : (lim (c : Int).natAbs).length ≠ 0 := by omega
      exact Nat.pos_of_ne_zero (ln_pos.1 (by rw [Int.natAbs_natCast] at this; omega))
    have hst := hinv.step hc0
    have lY := Nat.le_trans (ln_mono hst.hX) hl
    have hY' : b / c * Y ≤ m.natAbs := by
      have h1 := hinv.sum
      have h2 : b / c * Y * 1 ≤ b / c * Y * c := Nat.mul_le_mul_left _ hc0
      have h3 : b / c * Y * c ≤ Y * b := by
        rw [Nat.mul_comm (b / c) Y, Nat.mul_assoc]; exact Nat.mul_le_mul_left _ (Nat.div_mul_le_self b c)
      omega
    have lqY := Nat.le_trans (ln_mono hY') hl
    have lq : (lim (b / c)).length ≤ 8000000 := Nat.le_trans (ln_mono (Nat.div_le_self _ _)) lb
    have eq1 : ((b / c : Nat) : Int) * (s * (Y : Int)) = s * ((b / c * Y : Nat) : Int) := by rw [Int.natCast_mul]; exact Int.mul_left_comm _ _ _
    have eq2 : -s * (X : Int) - s * ((b / c * Y : Nat) : Int) = -s * ((X + b / c * Y : Nat) : Int) := by rw [Int.natCast_add, Int.mul_add, Int.neg_mul, Int.neg_mul]; omega
    obtain ⟨aq1, aq2⟩ := sgn_len (X := b / c * Y) hinv.sg
    refine ARun.skip ?_
    refine ARun.block ?_
    refine ARun.seq ?_
    refine ARun.region ?_
    refine y_op rfl (q_loadAggP rfl rfl rfl rfl rfl rfl) ?_
    refine y_op rfl (q_loadAggP rfl rfl rfl rfl rfl rfl) ?_
    refine y_op rfl (q_call rfl rfl (pc_s_Quotient (b : Int) (c : Int) 2 (by rw [Int.natAbs_natCast]; omega) (by rw [Int.natAbs_natCast]; omega) (by omega))) ?_
    rw [divW_down hc0]
    refine y_allocF rfl rfl rfl rfl rfl rfl rfl rfl rfl rfl rfl ?_
    refine AOps.nil ?_
    refine ARun.seq ?_
    refine ARun.region ?_
    refine y_op rfl (q_loadAggP rfl rfl rfl rfl rfl rfl) ?_
    refine y_new rfl (n_storeN rfl rfl rfl rfl rfl rfl rfl rfl (Nat.le_of_ble_eq_true rfl) rfl) ?_
    refine AOps.nil ?_
    refine ARun.seq ?_
    refine ARun.region ?_
    refine y_op rfl (q_fldS rfl rfl rfl (by decide)) ?_
    refine y_op rfl (q_loadAgg rfl rfl rfl rfl rfl) ?_
    refine y_new rfl (n_storeN rfl rfl rfl rfl rfl rfl rfl rfl (Nat.le_of_ble_eq_true rfl) rfl) ?_
    refine AOps.nil ?_
    refine ARun.seq ?_
    refine ARun.drawnF (n := 8) (fun S : Nat → Bool => _) [(6, 10, 25, [.bool false, .nilsl], some (7, [.bool (decide (-s * ((X + b / c * Y : Nat) : Int) < 0)), numD (-s * ((X + b / c * Y : Nat) : Int)).natAbs]))] (fun _ => False) (sk := [(6, some 7)]) mixC rfl rfl (by kernel_rfl) rfl (by kernel_rfl) rfl rfl (fun _ _ _ h => h.elim) ?_
    refine DChG.op rfl (fun _ => q_loadAggP rfl rfl rfl rfl rfl rfl) (fun _ => rfl) rfl rfl ?_
    refine DChG.op rfl (fun _ => q_fldS rfl rfl rfl (by decide)) (fun _ => rfl) rfl rfl ?_
    refine DChG.op rfl (fun _ => q_loadAgg rfl rfl rfl rfl rfl) (fun _ => rfl) rfl rfl ?_
    refine DChG.op rfl (fun _ => q_loadAggP rfl rfl rfl rfl rfl rfl) (fun _ => rfl) rfl rfl ?_
    refine DChG.op rfl (fun _ => q_call rfl rfl ((pc_s_Times ((b / c : Nat) : Int) (s * (Y : Int)) (by rw [Int.natAbs_natCast]; omega) (by rw [aY1]; omega)).mono fun o ho => by rw [ho, eq1])) (fun _ => rfl) rfl rfl ?_
    refine DChG.op rfl (fun _ => q_call rfl rfl ((pc_s_Minus (-s * (X : Int)) (s * ((b / c * Y : Nat) : Int)) (by rw [aX2]; omega) (by rw [aq1]; omega)).mono fun o ho => by rw [ho, eq2])) (fun _ => rfl) rfl rfl ?_
    refine .al rfl rfl rfl rfl (fun _ => rfl) rfl rfl rfl ?_
    refine .sp (j := 6) rfl rfl rfl rfl rfl rfl rfl (fun _ => rfl) rfl rfl rfl (by kernel_rfl) ?_
    refine .nil (fun hG => AOps.fixed (as' := [(6, 10, 25, [.bool (decide (-s * ((X + b / c * Y : Nat) : Int) < 0)), numD (-s * ((X + b / c * Y : Nat) : Int)).natAbs])]) rfl ?_)
    refine AOps.nil ?_
    refine ARun.seq ?_
    refine ARun.region ?_
    refine y_op rfl (q_loadAggP rfl rfl rfl rfl rfl rfl) ?_
    refine y_new rfl (n_storeN rfl rfl rfl rfl rfl rfl rfl rfl (Nat.le_of_ble_eq_true rfl) rfl) ?_
    refine AOps.nil ?_
    refine ARun.region ?_
    refine y_op rfl (q_loadAgg rfl rfl rfl rfl rfl) ?_
    refine y_new rfl (n_storeN rfl rfl rfl rfl rfl rfl rfl rfl (Nat.le_of_ble_eq_true rfl) rfl) ?_
    refine AOps.nil ?_
    refine ARun.inBlock ?_
    refine ARun.again (ih ((c, b % c, Y, X + b / c * Y, -s)) ?_ ?_) ?_ ?_
    · exact hst
    · exact Nat.mod_lt _ hc0
    · (repeat' first | exact envLe_nil | apply envLe_any | apply envLe_same)
    · (show _ = [_, cellZ (c : Int), cellZ ((b % c : Nat) : Int), cellZ (- -s * (Y : Int)), _]; rw [Int.neg_neg]; rfl)
  · skip
    have hc0 : c = 0 := by
      apply Classical.byContradiction
      intro hn
      have := ln_pos.2 hn
      rw [Int.natAbs_natCast] at h
      omega
    subst hc0
    have hf := hinv.fin hm h0
    refine ARun.exit rfl ?_
    refine ARun.seq ?_
    refine ARun.region ?_
    refine y_op rfl (q_loadAggP rfl rfl rfl rfl rfl rfl) ?_
    refine y_op rfl (q_loadAgg rfl rfl rfl rfl rfl) ?_
    refine y_op rfl (q_call rfl rfl (pc_s_rest (-s * (X : Int)) m (by rw [aX2]; omega) (by omega) hm)) ?_
    rw [hf]
    refine y_new rfl (n_storeN rfl rfl rfl rfl rfl rfl rfl rfl (Nat.le_of_ble_eq_true rfl) rfl) ?_
    refine AOps.nil ?_
    refine ARun.ret ?_
    refine ⟨_, _, _, ResR.cellA rfl rfl rfl rfl rfl rfl .nil, .cons (.same _) .nil, rfl, ?_⟩
    rfl
end Go.V
set_option maxHeartbeats 4000000
set_option maxRecDepth 100000
set_option synthInstance.maxSize 100000
set_option synthInstance.maxHeartbeats 2000000
namespace Go.V
open Go.RowKit Go.Proofs
/-- A common divisor and its factors, as the specification gives them. -/
abbrev comD (g x y e : Int) : D := .agg [.bool (decide (g < 0)), numD g.natAbs, .bool (decide (x < 0)), numD x.natAbs, .bool (decide (y < 0)), numD y.natAbs, .int .i64 e]
abbrev comR (r : (Int × Int × Int) × Int) : D := comD r.1.1 r.1.2.1 r.1.2.2 r.2
theorem fz_com0 {H : Heap} (e : Int) : Fz H (.agg [.bool false, .nilsl, .bool false, .nilsl, .bool false, .nilsl, .int .i64 e]) (comD 0 0 0 e) [] := by
  have h : comD 0 0 0 e = .agg [.bool false, .sl 0 [], .bool false, .sl 0 [], .bool false, .sl 0 [], .int .i64 e] := by
    show D.agg [.bool (decide ((0 : Int) < 0)), sln .u32 (lim 0), .bool (decide ((0 : Int) < 0)), sln .u32 (lim 0), .bool (decide ((0 : Int) < 0)), sln .u32 (lim 0), _] = _
    rw [lim_zero]; rfl
  rw [h]
  exact .agg (.cons (.same _) (.cons .nil (.cons (.same _) (.cons .nil (.cons (.same _) (.cons .nil (.cons (.same _) .nil)))))))
theorem fz_com1 {H : Heap} (g x e : Int) : Fz H (.agg [.bool (decide (g < 0)), numD g.natAbs, .bool (decide (x < 0)), numD x.natAbs, .bool false, .nilsl, .int .i64 e]) (comD g x 0 e) [] := by
  have h : comD g x 0 e = .agg [.bool (decide (g < 0)), numD g.natAbs, .bool (decide (x < 0)), numD x.natAbs, .bool false, .sl 0 [], .int .i64 e] := by
    show D.agg [_, _, _, _, .bool (decide ((0 : Int) < 0)), sln .u32 (lim 0), _] = _
    rw [lim_zero]; rfl
  rw [h]
  exact .agg (.cons (.same _) (.cons (.same _) (.cons (.same _) (.cons (.same _) (.cons (.same _) (.cons .nil (.cons (.same _) .nil)))))))
theorem divW_zero (a b : Int) : divW (awayZ 1 (a.tdiv b) (a.tmod b) a b) a b = (a.tdiv b, a.tmod b) := by
  unfold divW
  exact if_pos (.inr rfl)
/-- What holds where the second integer is not 0. -/
theorem gcd_parts {a b : Int} (h0 : b ≠ 0) : ((b.tdiv (gG a b : Int)).natAbs = gQ a b) ∧ (∃ y0 : Int, a.tdiv (gG a b : Int) * gX a b + ((b.tdiv (gG a b : Int)).natAbs : Int) * y0 = 1) ∧ ((gG a b : Int) - a * gcdX a b).tdiv b = gcdY a b := by
  have hg : 0 < gG a b := Nat.gcd_pos_of_pos_right _ (by omega)
  have hga : ((gG a b : Nat) : Int) ∣ a := Int.ofNat_dvd_left.2 (Nat.gcd_dvd_left _ _)
  have hgb : ((gG a b : Nat) : Int) ∣ b := Int.ofNat_dvd_left.2 (Nat.gcd_dvd_right _ _)
  have ea := Int.mul_tdiv_cancel' hga
  have eb := Int.mul_tdiv_cancel' hgb
  have hq := gQ_mul (a := a) (b := b) h0
  have hx := gXY (a := a) (b := b) h0
  have he := gcd_eq (a := a) (b := b) h0
  refine ⟨?_, ⟨(b.tdiv (gG a b : Int)).sign * gY a b, ?_⟩, ?_⟩
  · have h1 : gG a b * (b.tdiv (gG a b : Int)).natAbs = b.natAbs := by rw [← Int.natAbs_natCast (gG a b), ← Int.natAbs_mul, Int.natAbs_natCast, eb]
    rw [← hq, Nat.mul_comm] at h1
    exact Nat.eq_of_mul_eq_mul_right hg h1
  · have e1 : ((b.tdiv (gG a b : Int)).natAbs : Int) * ((b.tdiv (gG a b : Int)).sign * gY a b) = b.tdiv (gG a b : Int) * gY a b := by
      rw [← Int.mul_assoc, Int.mul_comm _ (Int.sign _), Int.sign_mul_natAbs]
    rw [e1]
    have e2 : ((gG a b : Nat) : Int) * (a.tdiv (gG a b : Int) * gX a b + b.tdiv (gG a b : Int) * gY a b) = ((gG a b : Nat) : Int) * 1 := by
      rw [Int.mul_add, ← Int.mul_assoc, ← Int.mul_assoc, ea, eb, Int.mul_one]; exact hx
    exact Int.eq_of_mul_eq_mul_left (by omega) e2
  · rw [← he, show a * gcdX a b + b * gcdY a b - a * gcdX a b = b * gcdY a b by omega]
    exact Int.mul_tdiv_cancel_left _ h0
theorem pc_s_Gcd (d1 d2 : Bool × List Nat) (h1 : U32 d1.2) (h2 : U32 d2.2) : PC C n_R02_Gcd [intA d1.1 d1.2, intA d2.1 d2.2] (fun o => o = .ret (comR (gcdR ([d1, d2].all okI) (valI d1) (valI d2)))) := by
  refine PC.run fn_R02_Gcd en_R02_Gcd rfl nt_R02_Gcd rfl (rs := [.cell 4 39]) (by rw [rs_R02_Gcd]) (by simp only [List.length_cons, List.length_nil, Nat.reduceAdd, Nat.reduceSub, List.replicate_succ, List.replicate_zero, List.cons_append, List.nil_append]; exact rfl) ?_
  refine ARun.seq ?_
  refine ARun.region ?_
  refine y_op rfl (q_boxF rfl rfl rfl rfl) ?_
  refine y_op rfl (q_boxF rfl rfl rfl rfl) ?_
  refine y_new rfl (n_alloc rfl rfl rfl rfl) ?_
  refine AOps.nil ?_
  refine ARun.seq ?_
  refine ARun.seq ?_
  refine ARun.region ?_
  refine y_op rfl (q_loadAgg rfl rfl rfl rfl rfl) ?_
  refine y_op rfl (q_call rfl rfl (pc_s_Valid d1)) ?_
  refine y_op rfl (q_not rfl) ?_
  refine y_op rfl (q_move rfl) ?_
  refine AOps.bool 10 rfl (fun g1 => ?_) (fun g1 => ?_)
  · skip
    have g1 : okI d1 = false := by simpa using g1
    have hc : [d1, d2].all okI = false := by simp only [List.all_cons, g1, Bool.false_and]
    refine y_skip rfl ?_
    refine y_skip rfl ?_
    refine y_skip rfl ?_
    refine y_op rfl (q_pick rfl rfl rfl rfl) ?_
    refine AOps.nil ?_
    refine ARun.condT rfl ?_
    refine ARun.seq ?_
    refine ARun.region ?_
    refine y_op rfl (q_build rfl rfl rfl rfl rfl) ?_
    refine y_new rfl (n_storeN rfl rfl rfl rfl rfl rfl rfl rfl (Nat.le_of_ble_eq_true rfl) rfl) ?_
    refine AOps.nil ?_
    refine ARun.ret ?_
    refine ⟨_, _, _, ResR.cellA rfl rfl rfl rfl rfl rfl .nil, .cons (fz_com0 1) .nil, rfl, ?_⟩
    rw [hc]; rfl
  · skip
    have g1 : okI d1 = true := by simpa using g1
    refine y_op rfl (q_loadAgg rfl rfl rfl rfl rfl) ?_
    refine y_op rfl (q_call rfl rfl (pc_s_Valid d2)) ?_
    refine y_op rfl (q_not rfl) ?_
    refine y_op rfl (q_pick rfl rfl rfl rfl) ?_
    refine AOps.nil ?_
    refine ARun.cond rfl (fun g2 => ?_) (fun g2 => ?_)
    · skip
      have g2 : okI d2 = false := by simpa using g2
      have hc : [d1, d2].all okI = false := by simp only [List.all_cons, g1, g2, Bool.false_and, Bool.and_false]
      refine ARun.seq ?_
      refine ARun.region ?_
      refine y_op rfl (q_build rfl rfl rfl rfl rfl) ?_
      refine y_new rfl (n_storeN rfl rfl rfl rfl rfl rfl rfl rfl (Nat.le_of_ble_eq_true rfl) rfl) ?_
      refine AOps.nil ?_
      refine ARun.ret ?_
      refine ⟨_, _, _, ResR.cellA rfl rfl rfl rfl rfl rfl .nil, .cons (fz_com0 1) .nil, rfl, ?_⟩
      rw [hc]; rfl
    · skip
      have g2 : okI d2 = true := by simpa using g2
      have hc : [d1, d2].all okI = true := by simp only [List.all_cons, List.all_nil, g1, g2, Bool.and_true]
      obtain ⟨x, y, rfl, f1, rfl, f2⟩ := okI2 h1 h2 hc
      rw [hc, valI_int, valI_int]
      have f1' : (lim x.natAbs).length ≤ 1024 := f1
      have f2' : (lim y.natAbs).length ≤ 1024 := f2
      refine ARun.skip ?_
      refine ARun.seq ?_
      refine ARun.seq ?_
      refine ARun.region ?_
      refine y_op rfl (q_fldS rfl rfl rfl (by decide)) ?_
      refine y_op rfl (q_load rfl rfl rfl rfl) ?_
      refine y_op rfl (q_lenSl rfl rfl) ?_
      refine y_op rfl (q_int rfl rfl rfl) ?_
      refine AOps.nil ?_
      refine ARun.cond rfl (fun g5 => ?_) (fun g5 => ?_)
      · skip
        have hy : y = 0 := by
          have g5 : ((lim y.natAbs).length : Int) = 0 := by simpa using g5
          apply Classical.byContradiction
          intro hn
          have := ln_pos.2 (show y.natAbs ≠ 0 by omega)
          omega
        subst hy
        have hsg := Int.sign_trichotomy x
        refine ARun.seq ?_
        refine ARun.drawnP 7 (fun _ => False) mixC rfl rfl (by kernel_rfl) (fun _ _ h => h.elim) ?_
        refine .op rfl (q_fldS rfl rfl rfl (by decide)) ?_
        refine .op rfl (q_load rfl rfl rfl rfl) ?_
        refine .op rfl (q_call rfl rfl (pc_s_Of false x.natAbs (by omega))) ?_
        refine .op rfl (q_loadAgg rfl rfl rfl rfl rfl) ?_
        refine .op rfl (q_call rfl rfl (pc_s_Sgn x)) ?_
        refine .op rfl (q_call rfl rfl (pc_s_FromInt x.sign (by omega) (by omega))) ?_
        refine .op rfl (q_build rfl rfl rfl rfl rfl) ?_
        refine .nil (fun hG => ?_)
        refine y_new rfl (n_storeN rfl rfl rfl rfl rfl rfl rfl rfl (Nat.le_of_ble_eq_true rfl) rfl) ?_
        refine AOps.nil ?_
        refine ARun.ret ?_
        refine ⟨_, _, _, ResR.cellA rfl rfl rfl rfl rfl rfl .nil, .cons (fz_com1 _ _ 0) .nil, rfl, ?_⟩
        have : gG x 0 = x.natAbs := Nat.gcd_zero_right _
        simp only [gcdR, cond_true, gcdX, gcdY, if_pos, this]
        rfl
      · skip
        have hy : y ≠ 0 := by
          rintro rfl
          rw [show (0 : Int).natAbs = 0 from rfl, lim_zero] at g5
          cases g5
        obtain ⟨p1, ⟨y0, p2⟩, p3⟩ := gcd_parts (a := x) hy
        have hg : 0 < gG x y := Nat.gcd_pos_of_pos_right _ (by omega)
        have hQ := gQ_pos (a := x) hy
        obtain ⟨q1, q2, q3⟩ := fit_gcd (a := x) (b := y) f1 f2
        have q1' : (lim (gG x y : Int).natAbs).length ≤ 1024 := q1
        have q2' : (lim (gcdX x y).natAbs).length ≤ 1024 := q2
        have hlx : (lim (x.tdiv (gG x y : Int)).natAbs).length ≤ 1024 := by rw [Int.natAbs_tdiv]; exact Nat.le_trans (ln_mono (Nat.div_le_self _ _)) f1'
        have hly : (lim (y.tdiv (gG x y : Int)).natAbs).length ≤ 1024 := by rw [Int.natAbs_tdiv]; exact Nat.le_trans (ln_mono (Nat.div_le_self _ _)) f2'
        have hlm : (lim (x * gcdX x y).natAbs).length ≤ 2048 := by rw [Int.natAbs_mul]; have := ln_mul x.natAbs (gcdX x y).natAbs; omega
        have hld : (lim ((gG x y : Int) - x * gcdX x y).natAbs).length ≤ 2050 := by
          have e1 : ((gG x y : Int) - x * gcdX x y).natAbs ≤ (gG x y : Int).natAbs + (x * gcdX x y).natAbs := by omega
          have e2 := ln_add (gG x y : Int).natAbs (x * gcdX x y).natAbs
          have e3 := ln_mono e1
          omega
        have hinv : PC C n_R02_inverted [intD (x.tdiv (gG x y : Int)), intD (((y.tdiv (gG x y : Int)).natAbs : Nat) : Int)] (fun o => o = .ret (intD (gcdX x y))) := by
          refine (pc_s_inverted _ _ (gX x y) y0 (by omega) (by rw [Int.natAbs_natCast]; omega) (by omega) p2).mono fun o ho => ?_
          rw [ho, p1, gcdX, if_neg hy]
        refine ARun.skip ?_
        refine ARun.seq ?_
        refine ARun.region ?_
        refine y_op rfl (q_fldS rfl rfl rfl (by decide)) ?_
        refine y_op rfl (q_load rfl rfl rfl rfl) ?_
        refine y_op rfl (q_fldS rfl rfl rfl (by decide)) ?_
        refine y_op rfl (q_load rfl rfl rfl rfl) ?_
        refine y_op rfl (q_call rfl rfl (pc_r_Gcd x.natAbs y.natAbs (by omega) (by omega))) ?_
        refine y_op rfl (q_call rfl rfl (pc_s_Of false (gG x y) (by rw [Int.natAbs_natCast] at q1'; omega))) ?_
        refine y_allocF rfl rfl rfl rfl rfl rfl rfl rfl rfl rfl rfl ?_
        refine AOps.nil ?_
        refine ARun.seq ?_
        refine ARun.drawnF (n := 13) (fun S : Nat → Bool => _) [(11, 6, 25, [.bool false, .nilsl], some (12, [.bool (decide (gcdX x y < 0)), numD (gcdX x y).natAbs]))] (fun _ => False) (sk := [(11, some 12)]) mixC rfl rfl (by kernel_rfl) rfl (by kernel_rfl) rfl rfl (fun _ _ _ h => h.elim) ?_
        refine DChG.op rfl (fun _ => q_loadAgg rfl rfl rfl rfl rfl) (fun _ => rfl) rfl rfl ?_
        refine DChG.op rfl (fun _ => q_loadAgg rfl rfl rfl rfl rfl) (fun _ => rfl) rfl rfl ?_
        refine DChG.op rfl (fun _ => q_call rfl rfl ((pc_s_Quotient x (gG x y : Int) 1 (by omega) (by omega) (by omega)).mono fun o ho => by rw [ho, divW_zero])) (fun _ => rfl) rfl rfl ?_
        refine DChG.op rfl (fun _ => q_fieldA Tryz.underlying32 rfl rfl rfl rfl rfl rfl) (fun _ => rfl) rfl rfl ?_
        refine DChG.op rfl (fun _ => q_loadAgg rfl rfl rfl rfl rfl) (fun _ => rfl) rfl rfl ?_
        refine DChG.op rfl (fun _ => q_loadAgg rfl rfl rfl rfl rfl) (fun _ => rfl) rfl rfl ?_
        refine DChG.op rfl (fun _ => q_call rfl rfl ((pc_s_Quotient y (gG x y : Int) 1 (by omega) (by omega) (by omega)).mono fun o ho => by rw [ho, divW_zero])) (fun _ => rfl) rfl rfl ?_
        refine DChG.op rfl (fun _ => q_fieldA Tryz.underlying32 rfl rfl rfl rfl rfl rfl) (fun _ => rfl) rfl rfl ?_
        refine DChG.op rfl (fun _ => q_field1 Tryz.underlying25 rfl rfl rfl rfl rfl) (fun _ => rfl) rfl rfl ?_
        refine DChG.op rfl (fun _ => q_call rfl rfl (pc_s_Of false (y.tdiv (gG x y : Int)).natAbs (by omega))) (fun _ => rfl) rfl rfl ?_
        refine DChG.op rfl (fun _ => q_call rfl rfl (hinv)) (fun _ => rfl) rfl rfl ?_
        refine .al rfl rfl rfl rfl (fun _ => rfl) rfl rfl rfl ?_
        refine .sp (j := 11) rfl rfl rfl rfl rfl rfl rfl (fun _ => rfl) rfl rfl rfl (by kernel_rfl) ?_
        refine .nil (fun hG => AOps.fixed (as' := [(11, 6, 25, [.bool (decide (gcdX x y < 0)), numD (gcdX x y).natAbs])]) rfl ?_)
        refine AOps.nil ?_
        refine ARun.seq ?_
        refine ARun.drawnP 11 (fun _ => False) mixC rfl rfl (by kernel_rfl) (fun _ _ h => h.elim) ?_
        refine .op rfl (q_loadAgg rfl rfl rfl rfl rfl) ?_
        refine .op rfl (q_loadAgg rfl rfl rfl rfl rfl) ?_
        refine .op rfl (q_loadAgg rfl rfl rfl rfl rfl) ?_
        refine .op rfl (q_loadAgg rfl rfl rfl rfl rfl) ?_
        refine .op rfl (q_loadAgg rfl rfl rfl rfl rfl) ?_
        refine .op rfl (q_call rfl rfl (pc_s_Times x (gcdX x y) (by omega) (by omega))) ?_
        refine .op rfl (q_call rfl rfl (pc_s_Minus (gG x y : Int) (x * gcdX x y) (by omega) (by omega))) ?_
        refine .op rfl (q_loadAgg rfl rfl rfl rfl rfl) ?_
        refine .op rfl (q_call rfl rfl ((pc_s_Quotient ((gG x y : Int) - x * gcdX x y) y 1 (by omega) (by omega) hy).mono fun o ho => by rw [ho, divW_zero, p3])) ?_
        refine .op rfl (q_fieldA Tryz.underlying32 rfl rfl rfl rfl rfl rfl) ?_
        refine .op rfl (q_build rfl rfl rfl rfl rfl) ?_
        refine .nil (fun hG => ?_)
        refine y_new rfl (n_storeN rfl rfl rfl rfl rfl rfl rfl rfl (Nat.le_of_ble_eq_true rfl) rfl) ?_
        refine AOps.nil ?_
        refine ARun.ret ?_
        refine ⟨_, _, _, ResR.cellA rfl rfl rfl rfl rfl rfl .nil, .cons (.same _) .nil, rfl, ?_⟩
        rfl
/-- The inverse and the error. -/
def invR (ok : Bool) (a m : Int) : Int × Int := bif ok then (if m = 0 then (0, 8) else if m < 0 then (0, 1) else if gG a m = 1 then (gcdX a m, 0) else (0, 5)) else (0, 1)
theorem pc_s_Inverse (d1 d2 : Bool × List Nat) (h1 : U32 d1.2) (h2 : U32 d2.2) : PC C n_R02_Inverse [intA d1.1 d1.2, intA d2.1 d2.2] (fun o => o = .ret (gotR (invR ([d1, d2].all okI) (valI d1) (valI d2)))) := by
  refine PC.run fn_R02_Inverse en_R02_Inverse rfl nt_R02_Inverse rfl (rs := [.cell 4 45]) (by rw [rs_R02_Inverse]) (by simp only [List.length_cons, List.length_nil, Nat.reduceAdd, Nat.reduceSub, List.replicate_succ, List.replicate_zero, List.cons_append, List.nil_append]; exact rfl) ?_
  refine ARun.seq ?_
  refine ARun.region ?_
  refine y_op rfl (q_boxF rfl rfl rfl rfl) ?_
  refine y_op rfl (q_boxF rfl rfl rfl rfl) ?_
  refine y_new rfl (n_alloc rfl rfl rfl rfl) ?_
  refine AOps.nil ?_
  refine ARun.seq ?_
  refine ARun.seq ?_
  refine ARun.region ?_
  refine y_op rfl (q_loadAgg rfl rfl rfl rfl rfl) ?_
  refine y_op rfl (q_call rfl rfl (pc_s_Valid d1)) ?_
  refine y_op rfl (q_not rfl) ?_
  refine y_op rfl (q_move rfl) ?_
  refine AOps.bool 8 rfl (fun g1 => ?_) (fun g1 => ?_)
  · skip
    have g1 : okI d1 = false := by simpa using g1
    have hc : [d1, d2].all okI = false := by simp only [List.all_cons, g1, Bool.false_and]
    refine y_skip rfl ?_
    refine y_skip rfl ?_
    refine y_skip rfl ?_
    refine y_op rfl (q_pick rfl rfl rfl rfl) ?_
    refine AOps.nil ?_
    refine ARun.condT rfl ?_
    refine ARun.seq ?_
    refine ARun.region ?_
    refine y_op rfl (q_build rfl rfl rfl rfl rfl) ?_
    refine y_new rfl (n_storeN rfl rfl rfl rfl rfl rfl rfl rfl (Nat.le_of_ble_eq_true rfl) rfl) ?_
    refine AOps.nil ?_
    refine ARun.ret ?_
    refine ⟨_, _, _, ResR.cellA rfl rfl rfl rfl rfl rfl .nil, .cons (fz_got 1) .nil, rfl, ?_⟩
    rw [hc]; rfl
  · skip
    have g1 : okI d1 = true := by simpa using g1
    refine y_op rfl (q_loadAgg rfl rfl rfl rfl rfl) ?_
    refine y_op rfl (q_call rfl rfl (pc_s_Valid d2)) ?_
    refine y_op rfl (q_not rfl) ?_
    refine y_op rfl (q_pick rfl rfl rfl rfl) ?_
    refine AOps.nil ?_
    refine ARun.cond rfl (fun g2 => ?_) (fun g2 => ?_)
    · skip
      have g2 : okI d2 = false := by simpa using g2
      have hc : [d1, d2].all okI = false := by simp only [List.all_cons, g1, g2, Bool.false_and, Bool.and_false]
      refine ARun.seq ?_
      refine ARun.region ?_
      refine y_op rfl (q_build rfl rfl rfl rfl rfl) ?_
      refine y_new rfl (n_storeN rfl rfl rfl rfl rfl rfl rfl rfl (Nat.le_of_ble_eq_true rfl) rfl) ?_
      refine AOps.nil ?_
      refine ARun.ret ?_
      refine ⟨_, _, _, ResR.cellA rfl rfl rfl rfl rfl rfl .nil, .cons (fz_got 1) .nil, rfl, ?_⟩
      rw [hc]; rfl
    · skip
      have g2 : okI d2 = true := by simpa using g2
      have hc : [d1, d2].all okI = true := by simp only [List.all_cons, List.all_nil, g1, g2, Bool.and_true]
      obtain ⟨x, y, rfl, f1, rfl, f2⟩ := okI2 h1 h2 hc
      rw [hc, valI_int, valI_int]
      have f1' : (lim x.natAbs).length ≤ 1024 := f1
      have f2' : (lim y.natAbs).length ≤ 1024 := f2
      refine ARun.skip ?_
      refine ARun.seq ?_
      refine ARun.seq ?_
      refine ARun.region ?_
      refine y_op rfl (q_fldS rfl rfl rfl (by decide)) ?_
      refine y_op rfl (q_load rfl rfl rfl rfl) ?_
      refine y_op rfl (q_lenSl rfl rfl) ?_
      refine y_op rfl (q_int rfl rfl rfl) ?_
      refine AOps.nil ?_
      refine ARun.cond rfl (fun g5 => ?_) (fun g5 => ?_)
      · skip
        have hy : y = 0 := by
          have g5 : ((lim y.natAbs).length : Int) = 0 := by simpa using g5
          apply Classical.byContradiction
          intro hn
          have := ln_pos.2 (show y.natAbs ≠ 0 by omega)
          omega
        refine ARun.seq ?_
        refine ARun.region ?_
        refine y_op rfl (q_build rfl rfl rfl rfl rfl) ?_
        refine y_new rfl (n_storeN rfl rfl rfl rfl rfl rfl rfl rfl (Nat.le_of_ble_eq_true rfl) rfl) ?_
        refine AOps.nil ?_
        refine ARun.ret ?_
        refine ⟨_, _, _, ResR.cellA rfl rfl rfl rfl rfl rfl .nil, .cons (fz_got 8) .nil, rfl, ?_⟩
        unfold invR
        rw [cond_true, if_pos hy]; rfl
      · skip
        have hy : y ≠ 0 := by
          rintro rfl
          rw [show (0 : Int).natAbs = 0 from rfl, lim_zero] at g5
          cases g5
        refine ARun.skip ?_
        refine ARun.seq ?_
        refine ARun.seq ?_
        refine ARun.region ?_
        refine y_op rfl (q_fldS rfl rfl rfl (by decide)) ?_
        refine y_op rfl (q_load rfl rfl rfl rfl) ?_
        refine AOps.nil ?_
        refine ARun.ite rfl (fun g6 => ?_) (fun g6 => ?_)
        · skip
          refine ARun.seq ?_
          refine ARun.region ?_
          refine y_op rfl (q_build rfl rfl rfl rfl rfl) ?_
          refine y_new rfl (n_storeN rfl rfl rfl rfl rfl rfl rfl rfl (Nat.le_of_ble_eq_true rfl) rfl) ?_
          refine AOps.nil ?_
          refine ARun.ret ?_
          refine ⟨_, _, _, ResR.cellA rfl rfl rfl rfl rfl rfl .nil, .cons (fz_got 1) .nil, rfl, ?_⟩
          unfold invR
          rw [cond_true, if_neg hy, if_pos g6]; rfl
        · skip
          have hy0 : 0 < y := by omega
          have hgn : (lim (gG x y)).length ≤ 1024 := Nat.le_trans (ln_mono (Nat.gcd_le_right _ (by omega))) f2'
          have hsame : PC C n_R01_Same [numD (gG x y), .sl 1 [.int .u32 1]] (fun o => o = .ret (.bool (decide (gG x y = 1)))) := by
            have h := pc_r_Same (lim (gG x y)) (lim 1)
            rw [show sln .u32 (lim 1) = D.sl 1 [.int .u32 1] from numD_one.symm] at h
            refine h.mono fun o ho => ?_
            rw [ho]
            congr 3
            exact propext ⟨fun h => by rw [← val_lim (gG x y), h, val_lim], fun h => by rw [h]⟩
          refine ARun.skip ?_
          refine ARun.seq ?_
          refine ARun.seq ?_
          refine ARun.region ?_
          refine y_op rfl (q_fldS rfl rfl rfl (by decide)) ?_
          refine y_op rfl (q_load rfl rfl rfl rfl) ?_
          refine y_op rfl (q_fldS rfl rfl rfl (by decide)) ?_
          refine y_op rfl (q_load rfl rfl rfl rfl) ?_
          refine y_op rfl (q_call rfl rfl (pc_r_Gcd x.natAbs y.natAbs (by omega) (by omega))) ?_
          refine y_op rfl (q_buildF rfl rfl rfl rfl rfl rfl rfl rfl rfl rfl rfl (by decide) (by decide) rfl) ?_
          refine y_op rfl (q_call rfl rfl (hsame)) ?_
          refine y_op rfl (q_not rfl) ?_
          refine AOps.nil ?_
          refine ARun.cond rfl (fun g7 => ?_) (fun g7 => ?_)
          · skip
            have g7 : ¬ gG x y = 1 := by simpa using g7
            refine ARun.seq ?_
            refine ARun.region ?_
            refine y_op rfl (q_build rfl rfl rfl rfl rfl) ?_
            refine y_new rfl (n_storeN rfl rfl rfl rfl rfl rfl rfl rfl (Nat.le_of_ble_eq_true rfl) rfl) ?_
            refine AOps.nil ?_
            refine ARun.ret ?_
            refine ⟨_, _, _, ResR.cellA rfl rfl rfl rfl rfl rfl .nil, .cons (fz_got 5) .nil, rfl, ?_⟩
            unfold invR
            rw [cond_true, if_neg hy, if_neg g6, if_neg g7]; rfl
          · skip
            have g7 : gG x y = 1 := by simpa using g7
            obtain ⟨p1, ⟨y0, p2⟩, p3⟩ := gcd_parts (a := x) hy
            have hx1 : x.tdiv ((gG x y : Nat) : Int) = x := by rw [g7]; exact Int.tdiv_one x
            have hy1 : y.tdiv ((gG x y : Nat) : Int) = y := by rw [g7]; exact Int.tdiv_one y
            rw [hx1, hy1] at p2
            rw [hy1] at p1
            rw [show ((y.natAbs : Nat) : Int) = y by omega] at p2
            refine ARun.skip ?_
            refine ARun.seq ?_
            refine ARun.region ?_
            refine y_op rfl (q_loadAgg rfl rfl rfl rfl rfl) ?_
            refine y_op rfl (q_loadAgg rfl rfl rfl rfl rfl) ?_
            refine y_op rfl (q_call rfl rfl (pc_s_inverted x y (gX x y) y0 (by omega) (by omega) hy0 p2)) ?_
            refine y_op rfl (q_build rfl rfl rfl rfl rfl) ?_
            refine y_new rfl (n_storeN rfl rfl rfl rfl rfl rfl rfl rfl (Nat.le_of_ble_eq_true rfl) rfl) ?_
            refine AOps.nil ?_
            refine ARun.ret ?_
            refine ⟨_, _, _, ResR.cellA rfl rfl rfl rfl rfl rfl .nil, .cons (.same _) .nil, rfl, ?_⟩
            unfold invR
            rw [cond_true, if_neg hy, if_neg g6, if_pos g7, gcdX, if_neg hy, ← p1, show ((y.natAbs : Nat) : Int) = y by omega]; rfl
end Go.V
set_option maxHeartbeats 4000000
set_option synthInstance.maxSize 100000
set_option synthInstance.maxHeartbeats 2000000
namespace Go.V
open Go.RowKit Go.Proofs
end Go.V
set_option maxHeartbeats 8000000
set_option maxRecDepth 100000
set_option synthInstance.maxSize 100000
set_option synthInstance.maxHeartbeats 2000000
namespace Go.V
open Go.RowKit Go.Proofs
theorem cmpZ_zero (x y : Int) : (cmpZ x y == 0) = decide (x = y) := by
  unfold cmpZ
  by_cases h : x < y
  · rw [if_pos h, decide_eq_false (show ¬ x = y by omega)]; rfl
  · rw [if_neg h]
    by_cases h2 : x = y
    · rw [if_pos h2, decide_eq_true h2]; rfl
    · rw [if_neg h2, decide_eq_false h2]; rfl
end Go.V
set_option maxHeartbeats 4000000
set_option maxRecDepth 100000
set_option synthInstance.maxSize 100000
set_option synthInstance.maxHeartbeats 2000000
namespace Go.V
open Go.RowKit Go.Proofs
def invO (a m : Int) : Int ⊕ Int := if m = 0 then .inr 8 else if m < 0 then .inr 1 else if gG a m = 1 then .inl (gcdX a m) else .inr 5
theorem resZ_inv (ok : Bool) (a m : Int) : resZ ok (invO a m) = invR ok a m := by
  unfold invO invR
  cases ok
  · rfl
  · repeat' split
    all_goals rfl
theorem len_pos_iff {z : Int} : decide (((lim z.natAbs).length : Int) > 0) = decide (z ≠ 0) := by
  have := @ln_pos z.natAbs
  exact decide_eq_decide.2 ⟨fun h e => (by subst e; rw [show (0 : Int).natAbs = 0 from rfl, lim_zero] at h; cases h), fun h => (by have := this.2 (by omega); omega)⟩
theorem cmpZ_one {z : Int} : (cmpZ z 1 == 0) = decide (z = 1) := cmpZ_zero z 1
theorem pc_w_Inverse_1 (a m : Int) (ha : fitZ a) (hm : fitZ m) : PC C n_whole_Inverse_1 [capZ m, capZ a] (fun o => o = outZ (invO a m)) := by
  obtain ⟨q1, q2, q3⟩ := fit_gcd (a := a) (b := m) ha hm
  refine PC.run fn_whole_Inverse_1 en_whole_Inverse_1 rfl nt_whole_Inverse_1 rfl (rs := [.cell 2 25]) (by rw [rs_whole_Inverse_1]) (by simp only [List.length_cons, List.length_nil, Nat.reduceAdd, Nat.reduceSub, List.replicate_succ, List.replicate_zero, List.cons_append, List.nil_append]; exact rfl) ?_
  refine ARun.seq ?_
  refine ARun.region ?_
  refine y_new rfl (n_alloc rfl rfl rfl rfl) ?_
  refine AOps.nil ?_
  refine ARun.seq ?_
  refine ARun.region ?_
  refine y_op rfl (q_fldS rfl rfl rfl (by decide)) ?_
  refine y_op rfl (q_load rfl rfl rfl rfl) ?_
  refine y_op rfl (q_lenSl rfl rfl) ?_
  refine y_op rfl (q_intB (b := decide (m ≠ 0)) rfl rfl rfl len_pos_iff) ?_
  refine y_gop rfl (g_call rfl rfl (PC.gp (pc_w_need _ 8))) (fun hg => ?_) (fun q hq => by obtain ⟨hq, rfl⟩ := hq; exact ⟨_, _, .same _, rfl, by have hq : m = 0 := (by simpa using hq); unfold invO; rw [if_pos hq]; rfl⟩)
  have hm0 : m ≠ 0 := of_decide_eq_true hg
  refine AOps.nil ?_
  refine ARun.seq ?_
  refine ARun.region ?_
  refine y_op rfl (q_fldS rfl rfl rfl (by decide)) ?_
  refine y_op rfl (q_load rfl rfl rfl rfl) ?_
  refine y_op rfl (q_not rfl) ?_
  refine y_gop rfl (g_call rfl rfl (PC.gp (pc_w_need _ 1))) (fun hg2 => ?_) (fun q hq => by obtain ⟨hq, rfl⟩ := hq; exact ⟨_, _, .same _, rfl, by have hq : m < 0 := (by simpa using hq); unfold invO; rw [if_neg (by omega), if_pos hq]; rfl⟩)
  have hm1 : ¬ m < 0 := by simpa using hg2
  refine AOps.nil ?_
  refine ARun.seq ?_
  refine ARun.region ?_
  refine y_op rfl (q_loadAgg rfl rfl rfl rfl rfl) ?_
  refine y_op rfl (q_loadAgg rfl rfl rfl rfl rfl) ?_
  refine y_op rfl (q_call rfl rfl (pc_w_gcd a m ha hm)) ?_
  refine y_op rfl (q_move rfl) ?_
  refine y_op rfl (q_extract rfl rfl) ?_
  refine y_op rfl (q_extract rfl rfl) ?_
  refine y_op rfl (q_extract rfl rfl) ?_
  refine y_allocF3 (alW rfl rfl rfl rfl rfl rfl rfl rfl rfl rfl rfl) (alW rfl rfl rfl rfl rfl rfl rfl rfl rfl rfl rfl) (alW rfl rfl rfl rfl rfl rfl rfl rfl rfl rfl rfl) rfl rfl rfl ?_
  refine AOps.nil ?_
  refine ARun.seq ?_
  refine ARun.drawnP 5 (fun q => ¬ gG a m = 1 ∧ q = failW 5) mixC rfl rfl (by kernel_rfl) (fun _ d hd => by obtain ⟨hd, rfl⟩ := hd; exact ⟨_, _, .same _, rfl, by unfold invO; rw [if_neg hm0, if_neg hm1, if_neg hd]; rfl⟩) ?_
  refine .op rfl (q_loadAgg rfl rfl rfl rfl rfl) ?_
  refine .op rfl (q_call rfl rfl (pc_w_FromInt 1 (by decide) (by decide))) ?_
  refine .op rfl (q_call rfl rfl (pc_w_cmp (gG a m : Int) 1 q1 (fit_small (by decide)))) ?_
  refine .op rfl (q_intB (b := decide (gG a m = 1)) rfl rfl rfl (by rw [cmpZ_one]; exact decide_eq_decide.2 (by omega))) ?_
  refine .opP rfl (g_call rfl rfl ((pc_w_need _ 5).mono fun o ho => ho.imp id (fun ⟨x, y⟩ => ⟨_, ⟨of_decide_eq_false x, rfl⟩, y⟩))) ?_
  refine .nil (fun hG => ?_)
  refine AOps.nil ?_
  refine ARun.seq ?_
  refine ARun.region ?_
  refine y_op rfl (q_loadAgg rfl rfl rfl rfl rfl) ?_
  have hg3 : gG a m = 1 := of_decide_eq_true hG.2
  refine y_op rfl (q_call rfl rfl (pc_w_own (gcdX a m) q2)) ?_
  refine y_new rfl (n_storeN rfl rfl rfl rfl rfl rfl rfl rfl (Nat.le_of_ble_eq_true rfl) rfl) ?_
  refine AOps.nil ?_
  refine ARun.ret ?_
  refine ⟨_, _, _, ResR.cellA rfl rfl rfl rfl rfl rfl .nil, .cons (.same _) .nil, rfl, ?_⟩
  unfold invO; rw [if_neg hm0, if_neg hm1, if_pos hg3]; rfl
theorem pc_w_Inverse (d1 d2 : Bool × List Nat) (h1 : U32 d1.2) (h2 : U32 d2.2) : PC C n_whole_Inverse [intA d1.1 d1.2, intA d2.1 d2.2] (fun o => o = .ret (.tup [intD (invR ([d1, d2].all okI) (valI d1) (valI d2)).1, .int .i64 (invR ([d1, d2].all okI) (valI d1) (valI d2)).2])) := by
  have hr := resZ_inv ([d1, d2].all okI) (valI d1) (valI d2)
  refine PC.run fn_whole_Inverse en_whole_Inverse rfl nt_whole_Inverse rfl (rs := [.cell 4 25, .tmp 5]) (by rw [rs_whole_Inverse]) (by simp only [List.length_cons, List.length_nil, Nat.reduceAdd, Nat.reduceSub, List.replicate_succ, List.replicate_zero, List.cons_append, List.nil_append]; exact rfl) ?_
  refine ARun.seq ?_
  refine ARun.region ?_
  refine y_op rfl (q_boxF rfl rfl rfl rfl) ?_
  refine y_op rfl (q_boxF rfl rfl rfl rfl) ?_
  refine y_new rfl (n_alloc rfl rfl rfl rfl) ?_
  refine y_op rfl (q_assign rfl) ?_
  refine AOps.nil ?_
  refine ARun.seq ?_
  refine ARun.region ?_
  refine y_op rfl (q_mkFunc rfl) ?_
  refine y_op rfl (q_loadAgg rfl rfl rfl rfl rfl) ?_
  refine y_op rfl (q_loadAgg rfl rfl rfl rfl rfl) ?_
  refine y_op rfl (q_buildF rfl rfl rfl rfl rfl rfl rfl rfl rfl rfl rfl (by decide) (by decide) rfl) ?_
  refine y_op rfl (q_call rfl rfl (pc_w_compute [d1, d2] 2 rfl n_whole_Inverse_1 [.sptr [.bool d2.1, sln .u32 d2.2], .sptr [.bool d1.1, sln .u32 d1.2]] rfl (invO (valI d1) (valI d2)) (fun h => by obtain ⟨x, y, rfl, f1, rfl, f2⟩ := okI2 h1 h2 h; rw [valI_int, valI_int]; exact pc_w_Inverse_1 x y f1 f2))) ?_
  refine y_op rfl (q_extract rfl rfl) ?_
  refine y_op rfl (q_extract rfl rfl) ?_
  refine y_new rfl (n_storeN rfl rfl rfl rfl rfl rfl rfl rfl (Nat.le_of_ble_eq_true rfl) rfl) ?_
  refine y_op rfl (q_assign rfl) ?_
  refine AOps.nil ?_
  refine ARun.ret ?_
  refine ⟨_, _, _, ResR.cellA rfl rfl rfl rfl rfl rfl (.tmp rfl .nil), .cons (.same _) (.cons (.same _) .nil), rfl, ?_⟩
  rw [← hr]
  rfl
theorem pc_l_Divisors (d1 d2 : Bool × List Nat) (h1 : U32 d1.2) (h2 : U32 d2.2) : PC C n_law02_WholeDivisors [intA d1.1 d1.2, intA d2.1 d2.2] (fun o => o = .ret (.bool true)) := by
  refine PC.run fn_law02_WholeDivisors en_law02_WholeDivisors rfl nt_law02_WholeDivisors rfl (rs := [.tmp 4]) (by rw [rs_law02_WholeDivisors]) (by simp only [List.length_cons, List.length_nil, Nat.reduceAdd, Nat.reduceSub, List.replicate_succ, List.replicate_zero, List.cons_append, List.nil_append]; exact rfl) ?_
  refine ARun.seq ?_
  refine ARun.region ?_
  refine y_op rfl (q_boxF rfl rfl rfl rfl) ?_
  refine y_op rfl (q_boxF rfl rfl rfl rfl) ?_
  refine y_op rfl (q_assign rfl) ?_
  refine AOps.nil ?_
  refine ARun.seq ?_
  refine ARun.seq ?_
  refine ARun.region ?_
  refine y_op rfl (q_loadAgg rfl rfl rfl rfl rfl) ?_
  refine y_op rfl (q_call rfl rfl (pc_l_small d1 8)) ?_
  refine y_op rfl (q_not rfl) ?_
  refine y_op rfl (q_move rfl) ?_
  refine AOps.bool 15 rfl (fun g1 => ?_) (fun g1 => ?_)
  · skip
    refine y_skip rfl ?_
    refine y_skip rfl ?_
    refine y_skip rfl ?_
    refine y_op rfl (q_pick rfl rfl rfl rfl) ?_
    refine AOps.nil ?_
    refine ARun.condT rfl ?_
    refine ARun.seq ?_
    refine ARun.region ?_
    refine y_op rfl (q_call rfl rfl (pc_l_awake)) ?_
    refine y_op rfl (q_assign rfl) ?_
    refine AOps.nil ?_
    refine ARun.ret ?_
    refine ⟨_, _, _, .tmp rfl .nil, .cons (.same _) .nil, rfl, ?_⟩
    rfl
  · skip
    refine y_op rfl (q_loadAgg rfl rfl rfl rfl rfl) ?_
    refine y_op rfl (q_call rfl rfl (pc_l_small d2 8)) ?_
    refine y_op rfl (q_not rfl) ?_
    refine y_op rfl (q_pick rfl rfl rfl rfl) ?_
    refine AOps.nil ?_
    refine ARun.cond rfl (fun g2 => ?_) (fun g2 => ?_)
    · skip
      refine ARun.seq ?_
      refine ARun.region ?_
      refine y_op rfl (q_call rfl rfl (pc_l_awake)) ?_
      refine y_op rfl (q_assign rfl) ?_
      refine AOps.nil ?_
      refine ARun.ret ?_
      refine ⟨_, _, _, .tmp rfl .nil, .cons (.same _) .nil, rfl, ?_⟩
      rfl
    · skip
      refine ARun.skip ?_
      refine ARun.seq ?_
      refine ARun.region ?_
      refine y_op rfl (q_loadAgg rfl rfl rfl rfl rfl) ?_
      refine y_op rfl (q_loadAgg rfl rfl rfl rfl rfl) ?_
      refine y_op rfl (q_call rfl rfl (pc_w_Gcd d1 d2 h1 h2)) ?_
      refine y_op rfl (q_move rfl) ?_
      refine y_op rfl (q_extract rfl rfl) ?_
      refine y_op rfl (q_extract rfl rfl) ?_
      refine y_op rfl (q_extract rfl rfl) ?_
      refine y_op rfl (q_extract rfl rfl) ?_
      refine y_allocF3 (alW rfl rfl rfl rfl rfl rfl rfl rfl rfl rfl rfl) (alW rfl rfl rfl rfl rfl rfl rfl rfl rfl rfl rfl) (alW rfl rfl rfl rfl rfl rfl rfl rfl rfl rfl rfl) rfl rfl rfl ?_
      refine y_op rfl (q_assign rfl) ?_
      refine AOps.nil ?_
      refine ARun.seq ?_
      refine ARun.region ?_
      refine y_op rfl (q_loadAgg rfl rfl rfl rfl rfl) ?_
      refine y_op rfl (q_loadAgg rfl rfl rfl rfl rfl) ?_
      refine y_op rfl (q_call rfl rfl (pc_s_Gcd d1 d2 h1 h2)) ?_
      refine y_allocF rfl rfl rfl rfl rfl rfl rfl rfl rfl rfl rfl ?_
      refine AOps.nil ?_
      refine ARun.seq ?_
      refine ARun.region ?_
      refine y_op rfl (q_loadAgg rfl rfl rfl rfl rfl) ?_
      refine y_op rfl (q_loadAgg rfl rfl rfl rfl rfl) ?_
      refine y_op rfl (q_call rfl rfl (pc_w_Inverse d1 d2 h1 h2)) ?_
      refine y_op rfl (q_move rfl) ?_
      refine y_op rfl (q_extract rfl rfl) ?_
      refine y_op rfl (q_extract rfl rfl) ?_
      refine y_allocF rfl rfl rfl rfl rfl rfl rfl rfl rfl rfl rfl ?_
      refine y_op rfl (q_assign rfl) ?_
      refine AOps.nil ?_
      refine ARun.seq ?_
      refine ARun.drawnP 33 (fun _ => False) mixC rfl rfl (by kernel_rfl) (fun _ _ h => h.elim) ?_
      refine .op rfl (q_call rfl rfl (pc_l_awake)) ?_
      refine .op rfl (q_move rfl) ?_
      refine .op rfl (q_move rfl) ?_
      refine .op rfl (q_fldS rfl rfl rfl (by decide)) ?_
      refine .op rfl (q_load rfl rfl rfl rfl) ?_
      refine .op rfl (q_intEqT rfl rfl rfl) ?_
      refine .op rfl (q_pick rfl rfl rfl rfl) ?_
      refine .op rfl (q_move rfl) ?_
      refine .op rfl (q_loadAgg rfl rfl rfl rfl rfl) ?_
      refine .op rfl (q_fldS rfl rfl rfl (by decide)) ?_
      refine .op rfl (q_loadAgg rfl rfl rfl rfl rfl) ?_
      refine .op rfl (q_call rfl rfl (same_T _)) ?_
      refine .op rfl (q_pick rfl rfl rfl rfl) ?_
      refine .op rfl (q_move rfl) ?_
      refine .op rfl (q_loadAgg rfl rfl rfl rfl rfl) ?_
      refine .op rfl (q_fldS rfl rfl rfl (by decide)) ?_
      refine .op rfl (q_loadAgg rfl rfl rfl rfl rfl) ?_
      refine .op rfl (q_call rfl rfl (same_T _)) ?_
      refine .op rfl (q_pick rfl rfl rfl rfl) ?_
      refine .op rfl (q_move rfl) ?_
      refine .op rfl (q_loadAgg rfl rfl rfl rfl rfl) ?_
      refine .op rfl (q_fldS rfl rfl rfl (by decide)) ?_
      refine .op rfl (q_loadAgg rfl rfl rfl rfl rfl) ?_
      refine .op rfl (q_call rfl rfl (same_T _)) ?_
      refine .op rfl (q_pick rfl rfl rfl rfl) ?_
      refine .op rfl (q_move rfl) ?_
      refine .op rfl (q_loadAgg rfl rfl rfl rfl rfl) ?_
      refine .op rfl (q_move rfl) ?_
      refine .op rfl (q_loadAgg rfl rfl rfl rfl rfl) ?_
      refine .op rfl (q_loadAgg rfl rfl rfl rfl rfl) ?_
      refine .op rfl (q_call rfl rfl (pc_s_Inverse d1 d2 h1 h2)) ?_
      refine .op rfl (q_call rfl rfl (pc_l_got _)) ?_
      refine .op rfl (q_pick rfl rfl rfl rfl) ?_
      refine .nil (fun hG => ?_)
      refine y_op rfl (q_assign rfl) ?_
      refine AOps.nil ?_
      refine ARun.ret ?_
      refine ⟨_, _, _, .tmp rfl .nil, .cons (.same _) .nil, rfl, ?_⟩
      rfl
end Go.V
/- THE ROWS: what the arguments read as, and what is left behind a call. -/
set_option maxRecDepth 100000
namespace Go.V
open Go.RowKit Go.Proofs Go.ChangeShapes Go.WideShapes Go.ChangeAt Go.ChangeMaps
theorem laidOutZ : laidOutB Tryz.prog = true := by kernel_rfl
theorem ownZ : ownKnob Tryz.prog.godebug = none := by kernel_rfl
theorem cell_lt {w : World} {a : Addr} {v : Value} (h : w.cell? a = some v) : a.block < w.heap.size := by
  apply Classical.byContradiction
  intro hn
  have : w.heap[a.block]? = none := by rw [Array.getElem?_eq_none_iff]; omega
  simp [World.cell?, this] at h
theorem SR0 (W : World) : SR C (fun _ => False) W [] [] :=
  ⟨rfl, fun i o b h => by simp at h, fun i j oi oj b h => by simp at h, fun i o b h => by simp at h, fun b h => h.elim, fun g cs h => by cases h⟩
theorem forb0 : forb (fun _ => False) [] [] = fun _ => False := by
  funext b
  apply propext
  constructor
  · rintro (h | ⟨i, o, h, _⟩)
    · exact h
    · simp at h
  · exact fun h => h.elim
section
variable {H : Type} {enc : TypeId × Value → H} {W : World}
theorem vr_limbs {fuel : Nat} {cs : List Value} {x : DataW H × List MemPlace} (h : DataW.trod enc Tryz.prog W 0 (fun _ => true) true fuel 23 cs = some x) :
    ∃ (v : Value) (xs : List Nat), cs = [v] ∧ U32 xs ∧ VR W (fun _ => False) [] [] (sln .u32 xs) v := by
  rcases open_ints Tryz.underlying23 Tryz.underlying54 (by kernel_rfl) h with ⟨rfl, _⟩ | ⟨a, len, cap, zs, rfl, _, hl, hm, hz, _, hcell, hwf⟩
  · refine ⟨_, [], rfl, fun _ h => (by cases h), ?_⟩
    simp only [VR]
    exact ⟨none, 0, rfl, Nat.le_refl _, Nat.zero_le _, fun h => (h rfl).elim⟩
  · simp only [if_true] at hz
    have hb : ∀ n ∈ zs, 0 ≤ n ∧ n < 4294967296 := by
      intro n hn
      have := hwf n hn
      simp [Lit.wf, IntKind.min, IntKind.max, IntKind.signed, IntKind.bits] at this
      omega
    have hu : U32 ((zs.take len).map Int.toNat) := by
      intro y hy
      obtain ⟨n, hn, rfl⟩ := List.mem_map.1 hy
      have := hb n (List.mem_of_mem_take hn)
      show n.toNat < 4294967296
      omega
    have hlen : ((zs.take len).map Int.toNat).length = len := by rw [List.length_map, List.length_take]; omega
    refine ⟨_, (zs.take len).map Int.toNat, rfl, hu, ?_⟩
    have hget : ∀ j : Nat, j < len → nts .u32 ((zs.take len).map Int.toNat) = nts .u32 ((zs.take len).map Int.toNat) → ((nts .u32 ((zs.take len).map Int.toNat))[j]? = some (.int .u32 (zs.getD j 0))) := by
      intro j hj _
      have hjz : j < zs.length := by omega
      have hn := hb (zs[j]'hjz) (List.getElem_mem hjz)
      simp only [nts, List.map_map, List.getElem?_map, List.getElem?_take, if_pos hj, List.getElem?_eq_getElem hjz, Option.map_some, Function.comp, List.getD_eq_getElem?_getD, Option.getD_some]
      congr 2
      omega
    simp only [VR]
    refine ⟨some a, cap, by rw [hlen], by rw [hlen]; exact hl, hm, fun hne => ⟨a, rfl, ?_, id, VRL_mk fun j d hd => ?_⟩⟩
    · have h0 : 0 < zs.length := by
        rcases Nat.eq_zero_or_pos zs.length with h | h
        · have : zs = [] := List.eq_nil_of_length_eq_zero h
          subst this
          simp [nts] at hne
        · exact h
      exact cell_lt (hcell 0 h0)
    · have hj : j < len := by
        have := (List.getElem?_eq_some_iff.1 hd).1
        simp only [nts, List.length_map, List.length_take] at this
        omega
      rw [hget j hj rfl] at hd
      injection hd with hd
      subst hd
      exact ⟨_, by rw [Nat.zero_add]; exact hcell j (by omega), rfl, by simp only [VR]⟩
theorem vr_Int {base : Nat} {v : Value} {d : DataW H} {p : List MemPlace} (hv : Value.okWide Tryz.prog W .any base 25 v) (h : DataW.Trod enc Tryz.prog W 0 (fun _ => true) true 25 v d p) :
    ∃ e : Bool × List Nat, U32 e.2 ∧ VR W (fun _ => False) [] [] (.agg [.bool e.1, sln .u32 e.2]) v := by
  obtain ⟨cs, rfl, hsz⟩ := okWide_struct Tryz.underlying25 hv
  obtain ⟨fuel, hf⟩ := h
  obtain ⟨y0, y1, n, _, hl, h0, h1⟩ := trod_struct2 Tryz.underlying25 hf
  have c25 : Tryz.prog.cellsOf 25 = 2 := by kernel_rfl
  have c4 : Tryz.prog.cellsOf 4 = 1 := by kernel_rfl
  have c23 : Tryz.prog.cellsOf 23 = 1 := by kernel_rfl
  rw [c25] at hsz
  obtain ⟨l⟩ := cs
  match l, hsz with
  | [c0, c1], _ =>
    simp only [Value.cells] at h0 h1
    rw [c4] at h0
    rw [c23] at h1
    obtain ⟨b, e0, _⟩ := DataW.trod_bool Tryz.underlying4 h0
    obtain ⟨v1, xs, e1, hu, hx⟩ := vr_limbs h1
    simp at e0 e1
    subst e0; subst e1
    refine ⟨(b, xs), hu, ?_⟩
    simp only [VR, VRs]
    refine ⟨[.bool b, c1], rfl, .bool b, [c1], rfl, rfl, c1, [], rfl, ?_, rfl⟩
    simpa only [VR] using hx
theorem trodAll_stays {W' : World} (hb : Below W.heap.size W W') {sp : Nat → Bool} : ∀ {ts : List TypeId} {vs : List Value} {ds : List (DataW H)} {p : List MemPlace}, (∀ t ∈ ts, Tryz.prog.readableRec t = true ∧ t < Tryz.prog.types.size) →
    DataW.TrodAll enc Tryz.prog W 0 (fun _ => true) true ts vs ds p → (∀ x ∈ p, x.block < W.heap.size ∧ sp x.block = true) → DataW.TrodAll enc Tryz.prog W' 0 sp true ts vs ds p
  | [], _, _, _, _, h, _ => by
    obtain ⟨rfl, rfl, rfl⟩ := trodAll_nil h
    simp [DataW.TrodAll]
  | t :: ts, _, _, _, ht, h, hp => by
    obtain ⟨v, vs, d, ds, a, b, rfl, rfl, rfl, h1, h2⟩ := trodAll_cons h
    obtain ⟨r1, r2⟩ := ht t (List.mem_cons_self ..)
    exact ⟨a, b, WideElems.Trod_stays laidOutZ r1 r2 h1 (fun x hx => hb.same (hp x (List.mem_append_left _ hx)).1) (fun x hx => (hp x (List.mem_append_left _ hx)).2),
      trodAll_stays hb (fun t ht' => ht t (List.mem_cons_of_mem _ ht')) h2 (fun x hx => hp x (List.mem_append_right _ hx)), rfl⟩
theorem law_post {fn : Func} {s : ChangeSpec} {W' : World} {args : Array Value} {ds : List (DataW H)} {before : List MemPlace} (hs : s.vars = []) (hW : DataW.Whole enc Tryz.prog fn.params.toList s.vars false W args.toList ds [] before) (hf : s.fn H ds = { results := [.lit (.bool true)], args := ds })
    (hr : fn.resultTypes = #[4]) (hts : ∀ t ∈ fn.params.toList, Tryz.prog.readableRec t = true ∧ t < Tryz.prog.types.size) (hb : Below W.heap.size W W') : s.post enc Tryz.prog fn false true false false W args (.bool true) W' := by
  have hW' := hW
  obtain ⟨p, q, hA, hV, rfl, _, _⟩ := hW
  rw [hs] at hV
  obtain ⟨_, rfl⟩ := trodVars_none hV
  have hlt : ∀ x ∈ p, x.block < W.heap.size := fun x hx => by simpa using hW'.lt x (List.mem_append_left _ hx)
  refine ⟨ds, [], p ++ [], [], p, [], hW', ?_, ?_, ?_, hb.frame _, fun h => by cases h⟩
  · rw [List.append_nil, hf, hr]
    exact trodAll_mk1 (shut_bool Tryz.underlying4 _)
  · rw [List.append_nil, hf]
    exact trodAll_stays hb hts hA fun x hx => ⟨hlt x hx, by simpa using hlt x hx⟩
  · rw [List.append_nil, hf, hs]
    rfl
end
/-- A law's call, out of its contract. -/
theorem law_calls {f : FuncId} {ds : List D} {W : World} {vs : List Value} (hc : PC C f ds (fun o => o = .ret (.bool true))) (hv : VRs W (fun _ => False) [] [] ds vs) : Calls Tryz.prog f vs.toArray W fun e W' => e = .returned (.bool true) ∧ Below W.heap.size W W' := by
  have h := (hc []).2 (fun _ => False) W [] vs (SR0 W) (by rw [forb0]; exact hv)
  refine h.mono ?_
  rintro e W' ⟨o, H', μ', ⟨rfl, rfl⟩, _, ⟨v, he, hv'⟩, hevo⟩
  simp only [VR] at hv'
  subst hv'
  exact ⟨he, hevo.os, hevo.tape, hevo.output, hevo.size, fun k hk => hevo.chg k hk fun ⟨i, o, h, _⟩ => by simp at h⟩
end Go.V
/- The closed facts of a row, one by one: what holds of the program itself, and how they are joined; no condition. -/
set_option maxRecDepth 100000
namespace Go.V
open Go.Proofs
theorem and_t {a b : Bool} (h1 : a = true) (h2 : b = true) : (a && b) = true := by rw [h1, h2]; rfl
theorem joined_of {P : Program} {f : FuncId} {fn : Func} {s : ChangeSpec} {c : OpenClaim}
    (k1 : (c.wf (OpenSpec.ofChange s)) = true)
    (k2 : (laidOutB P) = true)
    (k3 : (mapsRowed P) = true)
    (k4 : (fn.params.all (P.readableRec ·)) = true)
    (k5 : (namedTie P c.named s.vars) = true)
    (k6 : (c.stops == []) = true)
    (k7 : (P.stops == []) = true)
    (k8 : (c.knobs == []) = true)
    (k9 : (P.stopKnobs == []) = true)
    (k10 : (c.inPlace == P.inPlace f) = true)
    (k11 : (c.unfollowed == P.unfollowed f) = true)
    (k12 : (c.recurses == P.recurses f) = true)
    (k13 : (c.named == P.varsNamed f) = true)
    (k14 : ((c.maps == (fn.params.toList ++ s.plain.varTypes P).any (P.mapsRec ·))) = true)
    (k15 : ((c.ifaces == (fn.params.toList ++ s.plain.varTypes P).any (P.ifacesRec ·))) = true)
    (k16 : (c.mapsOut == P.mapsAmong fn.resultTypes.toList) = true)
    (k17 : ((c.loops == (fn.params.toList ++ s.plain.varTypes P).any (P.loopsFrom ·))) = true)
    (k18 : ((c.wideKeys == (fn.params.toList ++ s.plain.varTypes P ++ fn.resultTypes.toList).any (P.wideKeysFrom ·))) = true)
    (k19 : (s.vars.all (P.varReadable ·)) = true)
    (k20 : (fn.resultTypes.all (fun t => P.readableRec t && decide (t < P.types.size))) = true)
    (k21 : ((c.ifacesOut == fn.resultTypes.toList.any (P.ifacesRec ·))) = true)
    (k22 : ((c.loopsOut == fn.resultTypes.toList.any (P.loopsFrom ·))) = true)
    (k23 : (c.plainKeys == P.plainKeys) = true)
    (k24 : (c.shortTexts.isNone) = true)
    (k25 : (P.stopsHeard) = true)
    (k26 : (P.mayEnter) = true)
    (k27 : (c.lifted == P.liftsFinal) = true)
    (k28 : (P.make == some c.make) = true)
    (k29 : ((c.kinds == (if c.domain.isEmpty then [] else fn.params.toList.map fun t => match P.underlying t with | some (.int k) => some k | _ => none))) = true)
    (k30 : (c.pinned == c.pinnedBy) = true)
    (k31 : ((c.veiled == (fn.params.toList ++ s.plain.varTypes P ++ fn.resultTypes.toList).any (P.veiledRec ·))) = true)
    (k32 : (c.veiledFits P fn.params.toList (fn.params.toList ++ s.plain.varTypes P ++ fn.resultTypes.toList)) = true)
    : joinedFacts P f fn s c = true := by
  unfold joinedFacts
  exact and_t (and_t (and_t (and_t (and_t (and_t (and_t (and_t (and_t (and_t (and_t (and_t (and_t (and_t (and_t (and_t (and_t (and_t (and_t (and_t (and_t (and_t (and_t (and_t (and_t (and_t (and_t (and_t (and_t (and_t (and_t k1 k2) k3) k4) k5) k6) k7) k8) k9) k10) k11) k12) k13) k14) k15) k16) k17) k18) k19) k20) k21) k22) k23) k24) k25) k26) k27) k28) k29) k30) k31) k32
theorem z_maps : mapsRowed Tryz.prog = true := by kernel_rfl
theorem z_plainKeys : (Go.Proofs.YtjohcjagbodicaaGreatDoor.Rows.wholeSumsRow.plainKeys == Tryz.prog.plainKeys) = true := by kernel_rfl
theorem z_stopsHeard : Tryz.prog.stopsHeard = true := by kernel_rfl
theorem z_lifts : (Go.Proofs.YtjohcjagbodicaaGreatDoor.Rows.wholeSumsRow.lifted == Tryz.prog.liftsFinal) = true := by kernel_rfl
theorem z_make : (Tryz.prog.make == some Go.Proofs.YtjohcjagbodicaaGreatDoor.Rows.wholeSumsRow.make) = true := by kernel_rfl
theorem z_main : YtjohcjagbodicaaGreatDoor.Tryz.pinned.checked.prog.mainIs = some (true, "5b8a1e8da34a88fc5bd34c331ad38cb7b46866bf85af6ffc6bc920dabf7d6da1".toList) := by kernel_rfl
theorem z_looks : true = Tryz.prog.looks [] := by kernel_rfl
theorem z_enter : Tryz.prog.mayEnter = true := by kernel_rfl
end Go.V
