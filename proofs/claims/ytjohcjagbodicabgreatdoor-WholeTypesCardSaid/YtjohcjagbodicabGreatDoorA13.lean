/- A part of the proof: abstract values, rules for the steps of the program's form, and contracts of its functions, each proved; no condition. -/
import Derived.Test.YtjohcjagbodicabGreatDoorA12
import Derived.Shelf.Strings.Search1
set_option linter.unusedVariables false
set_option linter.unusedSimpArgs false
set_option maxHeartbeats 4000000
set_option maxRecDepth 100000
set_option synthInstance.maxSize 100000
set_option synthInstance.maxHeartbeats 2000000
namespace Go.V
open Go.RowKit Go.Proofs
theorem divW_euclid {a m : Int} (hm : 0 < m) : (divW (awayZ 3 (a.tdiv m) (a.tmod m) a m) a m).2 = a % m := by
  have haw : awayZ 3 (a.tdiv m) (a.tmod m) a m = decide (a < 0) := rfl
  rw [haw]
  unfold divW
  by_cases h : a < 0
  · rw [decide_eq_true h]
    have e := Int.tmod_eq_emod (a := a) (b := m)
    by_cases h0 : a.tmod m = 0
    · rw [if_pos (.inl h0)]
      dsimp only
      have : a % m = 0 := by
        have hd : m ∣ a := Int.dvd_of_tmod_eq_zero h0
        exact Int.emod_eq_zero_of_dvd hd
      omega
    rw [if_neg (by rintro (h1 | h1); exact h0 h1; cases h1)]
    dsimp only
    have hnd : ¬ m ∣ a := fun hd => h0 (Int.tmod_eq_zero_of_dvd hd)
    rw [if_neg (by rintro (h1 | h1); omega; exact hnd h1)] at e
    simp only [sgnd, cond_true]
    omega
  rw [decide_eq_false h, if_pos (.inr rfl)]
  exact Int.tmod_eq_emod_of_nonneg (by omega)
end Go.V
set_option maxHeartbeats 4000000
set_option maxRecDepth 100000
set_option synthInstance.maxSize 100000
set_option synthInstance.maxHeartbeats 2000000
namespace Go.V
open Go.RowKit Go.Proofs
structure Iv (a m : Int) (b c X Y : Nat) (s : Int) : Prop where
  sg : s = 1 ∨ s = -1
  e1 : ∃ k : Int, a * (-s * X) + m * k = b
  e2 : ∃ k : Int, a * (s * Y) + m * k = c
  sum : X * c + Y * b = m.natAbs
  hX : X ≤ m.natAbs
  hb : 0 < b
  g : Nat.gcd b c = 1
  bm : b ≤ m.natAbs
  cm : c ≤ m.natAbs
theorem Iv.init {a m x0 y0 : Int} (hm : 0 < m) (h : a * x0 + m * y0 = 1) : Iv a m m.natAbs (a % m).natAbs 0 1 1 := by
  have hr := Int.emod_nonneg a (show m ≠ 0 by omega)
  have hr2 := Int.emod_lt_of_pos a hm
  have hd := Int.mul_ediv_add_emod a m
  refine ⟨.inl rfl, ⟨1, by simp; omega⟩, ⟨-(a / m), ?_⟩, by simp, Nat.zero_le _, by omega, ?_, Nat.le_refl _, by omega⟩
  · have : ((a % m).natAbs : Int) = a % m := by omega
    rw [this, Int.mul_neg]
    show a * (1 * 1) + -(m * (a / m)) = a % m
    rw [Int.one_mul, Int.mul_one]
    omega
  have hg1 : ((Nat.gcd m.natAbs (a % m).natAbs : Nat) : Int) ∣ m := Int.ofNat_dvd_left.2 (Nat.gcd_dvd_left _ _)
  have hg2 : ((Nat.gcd m.natAbs (a % m).natAbs : Nat) : Int) ∣ (a % m) := Int.ofNat_dvd_left.2 (Nat.gcd_dvd_right _ _)
  have hg3 : ((Nat.gcd m.natAbs (a % m).natAbs : Nat) : Int) ∣ a := by
    have h5 := Int.dvd_add (Int.dvd_trans hg1 (Int.dvd_mul_right m (a / m))) hg2
    rwa [hd] at h5
  have hg4 : ((Nat.gcd m.natAbs (a % m).natAbs : Nat) : Int) ∣ 1 := by
    rw [← h]; exact Int.dvd_add (Int.dvd_trans hg3 (Int.dvd_mul_right _ _)) (Int.dvd_trans hg1 (Int.dvd_mul_right _ _))
  have := Int.le_of_dvd (by decide) hg4
  have hpos : 0 < Nat.gcd m.natAbs (a % m).natAbs := Nat.gcd_pos_of_pos_left _ (by omega)
  omega
theorem Iv.step {a m : Int} {b c X Y : Nat} {s : Int} (h : Iv a m b c X Y s) (hc : 0 < c) : Iv a m c (b % c) Y (X + b / c * Y) (-s) := by
  obtain ⟨k1, e1⟩ := h.e1
  obtain ⟨k2, e2⟩ := h.e2
  have hdm := Nat.div_add_mod b c
  have hdmZ : (c : Int) * ((b / c : Nat) : Int) + ((b % c : Nat) : Int) = (b : Int) := by rw [← Int.natCast_mul, ← Int.natCast_add, hdm]
  have hY : Y ≤ m.natAbs := by
    have := h.sum
    have h2 : Y * 1 ≤ Y * b := Nat.mul_le_mul_left _ h.hb
    omega
  refine ⟨by rcases h.sg with e | e <;> omega, ⟨k2, ?_⟩, ⟨k1 - ((b / c : Nat) : Int) * k2, ?_⟩, ?_, hY, hc, ?_, h.cm, Nat.le_trans (Nat.le_of_lt (Nat.mod_lt _ hc)) h.cm⟩
  · rw [Int.neg_neg]; exact e2
  · have e3 : ((b % c : Nat) : Int) = (a * (-s * X) + m * k1) - ((b / c : Nat) : Int) * (a * (s * Y) + m * k2) := by
      rw [e1, e2, Int.mul_comm ((b / c : Nat) : Int)]; omega
    rw [e3]
    push_cast
    simp only [Int.mul_add, Int.mul_sub, Int.neg_mul, Int.mul_neg]
    have t1 : a * (s * (((b : Int) / (c : Int)) * (Y : Int))) = ((b : Int) / (c : Int)) * (a * (s * (Y : Int))) := by
      rw [Int.mul_left_comm s, Int.mul_left_comm a]
    have t2 : m * (((b : Int) / (c : Int)) * k2) = ((b : Int) / (c : Int)) * (m * k2) := Int.mul_left_comm _ _ _
    rw [t1, t2]
    omega
  · have h1 := h.sum
    have h2 : Y * b = Y * (c * (b / c)) + Y * (b % c) := by rw [← Nat.mul_add, hdm]
    have h3 : (X + b / c * Y) * c = X * c + Y * (c * (b / c)) := by
      rw [Nat.add_mul]; congr 1
      simp only [Nat.mul_comm, Nat.mul_left_comm]
    omega
  rw [← h.g, Nat.gcd_comm b c, Nat.gcd_rec c b, Nat.gcd_comm]
theorem Iv.fin {a m x0 y0 : Int} {b X Y : Nat} {s : Int} (hm : 0 < m) (h0 : a * x0 + m * y0 = 1) (h : Iv a m b 0 X Y s) : (-s * X) % m = x0 % m := by
  have hb : b = 1 := by have := h.g; rwa [Nat.gcd_zero_right] at this
  obtain ⟨k, e⟩ := h.e1
  rw [hb] at e
  generalize -s * (X : Int) = x at e
  rw [Int.emod_eq_emod_iff_emod_sub_eq_zero]
  apply Int.emod_eq_zero_of_dvd
  refine ⟨x0 * (y0 - k) + y0 * (x - x0), ?_⟩
  have e1 : x - x0 = (a * x0 + m * y0) * (x - x0) := by rw [h0, Int.one_mul]
  have e2 : a * (x - x0) = m * (y0 - k) := by
    rw [Int.mul_sub, Int.mul_sub]; push_cast at e; omega
  have e3 : (a * x0 + m * y0) * (x - x0) = x0 * (a * (x - x0)) + m * (y0 * (x - x0)) := by
    rw [Int.add_mul, Int.mul_comm a x0, Int.mul_assoc, Int.mul_assoc]
  have e4 : (a * x0 + m * y0) * (x - x0) = m * (x0 * (y0 - k) + y0 * (x - x0)) := by rw [e3, e2, Int.mul_add, Int.mul_left_comm x0 m]
  exact e1.trans e4
end Go.V
set_option maxHeartbeats 4000000
set_option maxRecDepth 100000
set_option synthInstance.maxSize 100000
set_option synthInstance.maxHeartbeats 2000000
namespace Go.V
open Go.RowKit Go.Proofs
end Go.V
set_option maxHeartbeats 4000000
set_option synthInstance.maxSize 100000
set_option synthInstance.maxHeartbeats 2000000
namespace Go.V
open Go.RowKit Go.Proofs
theorem Zln (x y : Int) (hx : (lim x.natAbs).length ≤ 1000000) : PC C Zeb [intD x, intD y] (fun o => o = .ret (.bool (decide (x = y)))) := by
  refine PC.rn Zdz Zhh Zhi (rs := [.tmp 4]) (by rw [Zhj]) ?_
  refine ARun.seq (ARun.region ?_); refine zzb ?_; refine zzb ?_; refine zza ?_; refine AOps.nil (ARun.seq (ARun.seq (ARun.region ?_))); refine zzf ?_; refine zzl ?_; refine zzf ?_; refine zzl ?_
  refine y_op rfl (Zbd rfl rfl rfl) ?_
  refine zzm ?_
  refine AOps.bool 11 rfl (fun h1 => ?_) (fun h1 => ?_)
  · skip
    refine zzk ?_; refine zzk ?_; refine zzk ?_; refine zzk ?_; refine zzk ?_; refine zzk ?_; refine zzk ?_; refine zzp ?_; refine AOps.nil ?_
    refine ARun.condT rfl ?_
    refine ARun.seq (ARun.region ?_); refine zza ?_; refine AOps.nil ?_
    refine ARun.ret ?_
    refine ⟨_, _, _, .tmp rfl .nil, .cons (.same _) .nil, rfl, ?_⟩
    have : x ≠ y := by intro e; subst e; simp at h1
    rw [decide_eq_false this]; rfl
  have hs : (decide (x < 0) == decide (y < 0)) = true := by simpa using h1
  refine zzf ?_; refine zzl ?_; refine zzN ?_; refine zzf ?_; refine zzl ?_; refine zzN ?_; refine zzi ?_; refine zzp ?_; refine AOps.nil ?_
  refine ARun.cond rfl (fun h2 => ?_) (fun h2 => ?_)
  · skip
    refine ARun.seq (ARun.region ?_); refine zza ?_; refine AOps.nil ?_
    refine ARun.ret ?_
    refine ⟨_, _, _, .tmp rfl .nil, .cons (.same _) .nil, rfl, ?_⟩
    have : x ≠ y := by intro e; subst e; simp at h2
    rw [decide_eq_false this]; rfl
  have hl : (lim x.natAbs).length = (lim y.natAbs).length := by
    have h : ((lim x.natAbs).length : Int) = (lim y.natAbs).length := by simpa using h2
    omega
  refine ARun.skip (ARun.seq (ARun.seq (ARun.region ?_))); refine zza ?_; refine AOps.nil (ARun.block ?_)
  refine ARun.loopI (S := Nat) (fun i : Nat => [(4, .any), (20, .any), (21, .any), (22, .any), (23, .any), (24, .any), (25, .any), (26, .any), (27, .any), (28, .any), (29, .any), (30, .any), (31, .any), (32, .any), (33, .any), (34, .any), (35, .any), (36, .any), (37, .any), (5, .int .i64 (i : Int))]) (fun i : Nat => []) (fun i : Nat => i ≤ (lim x.natAbs).length ∧ ∀ j, j < i → (lim x.natAbs).getD j 0 = (lim y.natAbs).getD j 0) (fun i : Nat => (lim x.natAbs).length - i) (0) ?_ ?_ ?_ ?_
  · exact ⟨Nat.zero_le _, fun j h => absurd h (Nat.not_lt_zero _)⟩
  · (repeat' first | exact envLe_nil | apply envLe_any | apply envLe_same)
  · rfl
  rintro i hinv ih
  obtain ⟨hi, hsm⟩ := hinv
  refine ARun.seq (ARun.seq (ARun.region ?_)); refine zzm ?_; refine zzf ?_; refine zzl ?_; refine zzN ?_; refine zzi ?_; refine AOps.nil ?_
  refine ARun.ite rfl (fun h3 => ?_) (fun h3 => ?_)
  · skip
    refine ARun.skip (ARun.seq (ARun.block (ARun.seq ?_)))
    refine ARun.drawnP 11 (fun _ => False) mixC rfl rfl (by kernel_rfl) (fun _ _ h => h.elim) ?_
    refine .op rfl (q_fldS rfl rfl rfl (by decide)) ?_
    refine .op rfl (q_load rfl rfl rfl rfl) ?_
    refine .op rfl (q_move rfl) ?_
    refine .op rfl (Zag (i := (i : Int)) rfl rfl rfl rfl (by omega) (by omega) (nts_ne (by omega)) (drop_nat rfl)) ?_
    refine .op rfl (q_load rfl rfl rfl (nts_load (xs := lim x.natAbs) (i := i) (by omega))) ?_
    refine .op rfl (q_fldS rfl rfl rfl (by decide)) ?_
    refine .op rfl (q_load rfl rfl rfl rfl) ?_
    refine .op rfl (q_move rfl) ?_
    refine .op rfl (Zag (i := (i : Int)) rfl rfl rfl rfl (by omega) (by omega) (nts_ne (by omega)) (drop_nat rfl)) ?_
    refine .op rfl (q_load rfl rfl rfl (nts_load (xs := lim y.natAbs) (i := i) (by omega))) ?_
    refine .op rfl (q_int rfl rfl rfl) ?_
    refine .nil (fun hG => ?_)
    refine AOps.nil ?_
    refine ARun.cond rfl (fun h4 => ?_) (fun h4 => ?_)
    · skip
      refine ARun.seq (ARun.region ?_); refine zza ?_; refine AOps.nil ?_
      refine ARun.ret ?_
      refine ⟨_, _, _, .tmp rfl .nil, .cons (.same _) .nil, rfl, ?_⟩
      have : x ≠ y := by intro e; subst e; simp at h4
      rw [decide_eq_false this]; rfl
    have h4 : (lim x.natAbs).getD i 0 = (lim y.natAbs).getD i 0 := by
      have : (((lim x.natAbs).getD i 0 : Nat) : Int) = (((lim y.natAbs).getD i 0 : Nat) : Int) := by simpa using h4
      omega
    refine ARun.skip (ARun.inBlock (ARun.region ?_)); refine zzm ?_
    refine y_op rfl (q_add rfl rfl (nadd1_i64 (by omega))) ?_
    refine zza ?_; refine AOps.nil ?_
    refine ARun.again (ih ((i + 1)) ?_ ?_) ?_ ?_
    · exact ⟨by omega, fun j hj => by rcases Nat.lt_succ_iff_lt_or_eq.1 hj with h | rfl; exact hsm j h; exact h4⟩
    · omega
    · (repeat' first | exact envLe_nil | apply envLe_any | apply envLe_same)
    rfl
  refine ARun.exit rfl ?_
  refine ARun.seq (ARun.region ?_); refine zza ?_; refine AOps.nil ?_
  refine ARun.ret ?_
  refine ⟨_, _, _, .tmp rfl .nil, .cons (.same _) .nil, rfl, ?_⟩
  have e : lim x.natAbs = lim y.natAbs := by
    apply List.ext_getElem?
    intro j
    by_cases hj : j < (lim x.natAbs).length
    · have := hsm j (by omega)
      rw [List.getD_eq_getElem?_getD, List.getD_eq_getElem?_getD, List.getElem?_eq_getElem hj, List.getElem?_eq_getElem (by omega)] at this
      rw [List.getElem?_eq_getElem hj, List.getElem?_eq_getElem (by omega)]
      exact congrArg some this
    rw [List.getElem?_eq_none (by omega), List.getElem?_eq_none (by omega)]
  have := decEqZ x y
  rw [hs, decide_eq_true e] at this
  rw [← this]; rfl
theorem Zl4 (l : List (Bool × List Nat)) (n : Nat) (hn : l.length = n) (m : Nat) : PC C ZiY [.sl n (cellsI l), .int .i64 (m : Int)] (fun o => o = .ret (.bool (l.all fun d => decide (d.2.length ≤ m) && okI d))) := by
  refine PC.rn Zd7 Zia Zib (rs := [.tmp 4]) (by rw [Zic]) ?_
  refine ARun.lenle 0 rfl (fun hlen => ?_)
  rw [maxLen_eq] at hlen
  refine ARun.seq (ARun.region ?_); refine zza ?_; refine AOps.nil (ARun.seq (ARun.seq (ARun.region ?_))); refine zza ?_; refine AOps.nil (ARun.block ?_)
  refine ARun.loopI (S := Nat) (fun i : Nat => [(4, .any), (6, .any), (7, .any), (8, .any), (9, .any), (10, .any), (11, .any), (12, .any), (13, .any), (14, .any), (15, .any), (16, .any), (17, .any), (18, .any), (19, .any), (20, .any), (21, .any), (22, .any), (23, .any), (24, .any), (25, .any), (26, .any), (27, .any), (5, .int .i64 (i : Int))]) (fun i : Nat => []) (fun i : Nat => i ≤ n ∧ (l.all fun d => decide (d.2.length ≤ m) && okI d) = ((l.drop i).all fun d => decide (d.2.length ≤ m) && okI d)) (fun i : Nat => n - i) (0) ?_ ?_ ?_ ?_
  · exact ⟨Nat.zero_le _, rfl⟩
  · (repeat' first | exact envLe_nil | apply envLe_any | apply envLe_same)
  · rfl
  rintro i hinv ih
  obtain ⟨hi, he⟩ := hinv
  refine ARun.seq (ARun.seq (ARun.region ?_)); refine zzm ?_; refine zzm ?_; refine zzN ?_; refine zzi ?_; refine AOps.nil ?_
  refine ARun.ite rfl (fun h => ?_) (fun h => ?_)
  · skip
    have hlt : i < l.length := by omega
    have hdr : l.drop i = l[i] :: l.drop (i + 1) := List.drop_eq_getElem_cons hlt
    have hcd := cellsI_drop l i
    rw [hdr] at hcd
    rw [hdr, List.all_cons] at he
    have hne : cellsI l ≠ [] := fun e => by have := cellsI_len l; rw [e] at this; simp at this; omega
    refine ARun.skip (ARun.seq (ARun.block (ARun.seq (ARun.region ?_)))); refine zzm ?_; refine zzm ?_
    refine y_op rfl (Zag rfl rfl rfl rfl (by omega) (by omega) hne hcd) ?_
    refine zzf ?_; refine zzl ?_; refine zzN ?_; refine zzm ?_; refine zzi ?_; refine zzm ?_
    refine AOps.bool 20 rfl (fun h2 => ?_) (fun h2 => ?_)
    · skip
      have h2 : ¬ l[i].2.length ≤ m := by have := of_decide_eq_true h2; omega
      refine zzk ?_; refine zzk ?_; refine zzk ?_; refine zzk ?_; refine zzk ?_; refine zzk ?_; refine zzp ?_; refine AOps.nil ?_
      refine ARun.condT rfl ?_
      refine ARun.seq (ARun.region ?_); refine zza ?_; refine AOps.nil ?_
      refine ARun.ret ?_
      refine ⟨_, _, _, .tmp rfl .nil, .cons (.same _) .nil, rfl, ?_⟩
      rw [he, decide_eq_false h2]; rfl
    have h2 : l[i].2.length ≤ m := by have := of_decide_eq_false h2; omega
    refine zzm ?_; refine zzm ?_
    refine y_op rfl (Zag rfl rfl rfl rfl (by omega) (by omega) hne hcd) ?_
    refine y_op rfl (Zbe (ds := [.bool l[i].1, sln .u32 l[i].2]) rfl rfl rfl rfl rfl) ?_
    refine zzc rfl rfl (Ze1 l[i]) ?_
    refine zzn ?_; refine zzp ?_; refine AOps.nil ?_
    refine ARun.cond rfl (fun h3 => ?_) (fun h3 => ?_)
    · skip
      have h3 : okI l[i] = false := by simpa using h3
      refine ARun.seq (ARun.region ?_); refine zza ?_; refine AOps.nil ?_
      refine ARun.ret ?_
      refine ⟨_, _, _, .tmp rfl .nil, .cons (.same _) .nil, rfl, ?_⟩
      rw [he, h3, Bool.and_false]; rfl
    have h3 : okI l[i] = true := by simpa using h3
    refine ARun.skip (ARun.inBlock (ARun.region ?_)); refine zzm ?_
    refine y_op rfl (q_add rfl rfl (nadd1_i64 (by omega))) ?_
    refine zza ?_; refine AOps.nil ?_
    refine ARun.again (ih ((i + 1)) ?_ ?_) ?_ ?_
    · exact ⟨by omega, by rw [he, h3, decide_eq_true h2]; rfl⟩
    · omega
    · (repeat' first | exact envLe_nil | apply envLe_any | apply envLe_same)
    rfl
  refine ARun.exit rfl ?_
  refine ARun.seq (ARun.region ?_); refine zza ?_; refine AOps.nil ?_
  refine ARun.ret ?_
  refine ⟨_, _, _, .tmp rfl .nil, .cons (.same _) .nil, rfl, ?_⟩
  rw [he, List.drop_of_length_le (by omega)]; rfl
end Go.V
set_option maxHeartbeats 8000000
set_option maxRecDepth 100000
set_option synthInstance.maxSize 100000
set_option synthInstance.maxHeartbeats 2000000
namespace Go.V
open Go.RowKit Go.Proofs
abbrev lnZ (z : Int) : Nat := (lim z.natAbs).length
theorem lnZ_fit {x : Int} {m : Nat} (hx : lnZ x ≤ m) (h : m ≤ 1024 := by decide) : fitZ x := Nat.le_trans hx h
theorem Zg7 (x y : Int) (hx : fitZ x) (h : x = y) : PC C Zeb [intD x, intD y] (fun o => o = .ret (.bool true)) :=
  (Zln x y (by unfold fitZ at hx; omega)).mono fun o ho => by rw [ho, decide_eq_true h]
theorem not_false_true {b : Bool} (h : (!b) = false) : b = true := by cases b; cases h; rfl
theorem fine_int {d : Bool × List Nat} {m : Nat} (hu : U32 d.2) (h1 : d.2.length ≤ m) (h2 : okI d = true) : ∃ z, d = (decide (z < 0), lim z.natAbs) ∧ lnZ z ≤ m := by
  obtain ⟨z, rfl, _⟩ := okI_int hu h2
  exact ⟨z, rfl, h1⟩
end Go.V
set_option maxHeartbeats 4000000
set_option maxRecDepth 100000
set_option synthInstance.maxSize 100000
set_option synthInstance.maxHeartbeats 2000000
namespace Go.V
open Go.RowKit Go.Proofs
end Go.V
/- THE FOUR WAYS OF DIVISION: what quotients and rests satisfy: plain Lean. -/
namespace Go.V
structure DvF (k a b q r : Int) : Prop where
  e : q * b + r = a
  lt : r.natAbs < b.natAbs
  f1 : k = 1 → r ≠ 0 → decide (r < 0) = decide (a < 0)
  f2 : k = 2 → r ≠ 0 → decide (r < 0) = decide (b < 0)
  f3 : k = 3 → ¬ r < 0
  f4 : k = 4 → 2 * r.natAbs < b.natAbs ∨ (2 * r.natAbs = b.natAbs ∧ q.natAbs % 2 = 0)
  lq : q.natAbs ≤ a.natAbs + 1
end Go.V
set_option maxHeartbeats 8000000
set_option maxRecDepth 100000
set_option synthInstance.maxSize 100000
set_option synthInstance.maxHeartbeats 2000000
namespace Go.V
open Go.RowKit Go.Proofs
end Go.V
set_option maxHeartbeats 8000000
set_option maxRecDepth 100000
set_option synthInstance.maxSize 100000
set_option synthInstance.maxHeartbeats 2000000
namespace Go.V
open Go.RowKit Go.Proofs
end Go.V
set_option maxHeartbeats 4000000
set_option maxRecDepth 100000
set_option synthInstance.maxSize 100000
set_option synthInstance.maxHeartbeats 2000000
namespace Go.V
open Go.RowKit Go.Proofs
theorem numD_zero : numD 0 = .sl 0 [] := by rw [numD, lim_zero]; rfl
theorem lenN_zero_iff {n : Nat} : (((lim n).length : Int) == 0) = decide (n = 0) := by
  rw [Bool.eq_iff_iff, beq_iff_eq, decide_eq_true_iff]
  have := @ln_pos n
  constructor
  · intro h
    apply Classical.byContradiction
    intro hn
    have := this.2 hn
    omega
  rintro rfl; rw [lim_zero]; rfl
def shlR (a n : Nat) : Nat × Int := if a = 0 then (0, 0) else if n ≤ 32768 ∧ (lim (a * 2 ^ n)).length ≤ 1024 then (a * 2 ^ n, 0) else (0, 2)
theorem Zlo (a n : Nat) (ha : (lim a).length ≤ 1024) (hn : n ≤ 9223372036854775807) : PC C Zi8 [numD a, .int .i64 (n : Int)] (fun o => o = .ret (.tup [numD (shlR a n).1, .int .i64 (shlR a n).2])) := by
  have pan : ∀ (e : Int) (env : List D), env[4]? = some .nilsl → env[5]? = some (.ptr 0 0) → shlR a n = (0, e) → (QFin C [.tmp 4, .cell 5 Zah] fun o x => o.pure = true ∧ o = .ret (.tup [numD (shlR a n).1, .int .i64 (shlR a n).2])) (.pan (failN e)) env [some ⟨[.int .i64 0], Zah, 1, true, none⟩] [.fn Zaz [.ptr 0 0]] := by
    intro e env h4 h5 hr
    refine DC.mono (dc0_caught_pan 0 e) ?_
    rintro _ _ ⟨rfl, rfl⟩
    exact ⟨_, _, _, .tmp h4 (ResR.cell1 h5 rfl rfl rfl rfl .nil), .cons .nil (.cons (.same _) .nil), rfl, by rw [hr, numD_zero]; rfl⟩
  refine PC.rn ZhS ZkR ZkS (rs := [.tmp 4, .cell 5 31]) (by rw [ZkT]) ?_
  refine ARun.seq (ARun.region ?_); refine zza ?_
  refine y_new rfl (Zae rfl rfl rfl rfl) ?_
  refine AOps.nil (ARun.seq (ARun.region ?_))
  refine Zdl rfl rfl rfl ?_
  refine AOps.nil (ARun.seq (ARun.region ?_)); refine zzm ?_
  refine y_op rfl (Zan rfl rfl rfl rfl rfl rfl rfl rfl rfl rfl rfl (by decide) (by decide) rfl) ?_
  refine y_gop rfl (g_call rfl rfl (PC.gp (Zb2 [lim a] 1 rfl))) (fun _ => ?_) (fun q hq => by obtain ⟨hq, rfl⟩ := hq; simp only [List.all_cons, List.all_nil, Bool.and_true, okB_lim ha] at hq; cases hq)
  refine AOps.nil (ARun.seq (ARun.region ?_)); refine zzm ?_
  refine y_op rfl (q_intB (b := true) rfl rfl rfl (decide_eq_true (by omega))) ?_
  refine y_gop rfl (g_call rfl rfl (PC.gp (Zbo _ 1))) (fun _ => ?_) (fun q hq => by obtain ⟨hq, rfl⟩ := hq; cases hq)
  refine AOps.nil (ARun.seq (ARun.seq (ARun.region ?_))); refine zzm ?_; refine zzN ?_
  refine y_op rfl (q_intB (b := decide (a = 0)) rfl rfl rfl lenN_zero_iff) ?_
  refine AOps.nil ?_
  refine ARun.ite rfl (fun h0 => ?_) (fun h0 => ?_)
  · skip
    refine ARun.seq (ARun.region ?_); refine zza ?_
    refine y_new rfl (Zad rfl rfl rfl rfl rfl rfl (Nat.le_of_ble_eq_true rfl) rfl) ?_
    refine AOps.nil ?_
    refine ARun.ret ?_
    refine DC.mono (dc0_caught_ret 0) ?_
    rintro _ _ ⟨rfl, rfl⟩
    exact ⟨_, _, _, .tmp rfl (ResR.cell1 rfl rfl rfl rfl rfl .nil), .cons .nil (.cons (.same _) .nil), rfl, by unfold shlR; rw [if_pos h0, numD_zero]; rfl⟩
  refine ARun.skip (ARun.seq (ARun.region ?_)); refine zzm ?_
  refine y_op rfl (q_intB (b := decide (n ≤ 32768)) rfl rfl rfl (decide_eq_decide.2 (by omega))) ?_
  refine y_gop rfl (g_call rfl rfl (PC.gp (Zbo _ 2))) (fun hg => ?_) (fun q hq => by obtain ⟨hq, rfl⟩ := hq; exact pan 2 _ rfl rfl (by have hq : ¬ n ≤ 32768 := of_decide_eq_false hq; unfold shlR; rw [if_neg h0, if_neg (fun h => hq h.1)]))
  have hg : n ≤ 32768 := of_decide_eq_true hg
  refine AOps.nil (ARun.seq (ARun.region ?_)); refine zzm ?_; refine zzm ?_
  refine zzc rfl rfl (Za8 a n (by omega) (by omega)) ?_
  refine y_gop rfl (g_call rfl rfl (PC.gp (Zb3 (a * 2 ^ n)))) (fun hf => ?_) (fun q hq => by obtain ⟨hq, rfl⟩ := hq; exact pan 2 _ rfl rfl (by unfold shlR; rw [if_neg h0, if_neg (fun h => hq h.2)]))
  refine zza ?_
  refine y_new rfl (Zad rfl rfl rfl rfl rfl rfl (Nat.le_of_ble_eq_true rfl) rfl) ?_
  refine AOps.nil ?_
  refine ARun.ret ?_
  refine DC.mono (dc0_caught_ret 0) ?_
  rintro _ _ ⟨rfl, rfl⟩
  exact ⟨_, _, _, .tmp rfl (ResR.cell1 rfl rfl rfl rfl rfl .nil), .cons (.same _) (.cons (.same _) .nil), rfl, by unfold shlR; rw [if_neg h0, if_pos ⟨hg, hf⟩]; rfl⟩
end Go.V
set_option maxHeartbeats 4000000
set_option maxRecDepth 100000
set_option synthInstance.maxSize 100000
set_option synthInstance.maxHeartbeats 2000000
namespace Go.V
open Go.RowKit Go.Proofs
def sby (s : ByteArray) : List Nat := s.data.toList.map (·.toNat)
theorem sby_len (s : ByteArray) : (sby s).length = s.size := by
  unfold sby; rw [List.length_map, Array.length_toList]; rfl
theorem sby_lt {s : ByteArray} (i : Nat) : (sby s).getD i 0 < 256 := by
  rw [List.getD_eq_getElem?_getD]
  unfold sby
  rw [List.getElem?_map]
  cases h : s.data.toList[i]? with
  | none => decide
  | some u => exact u.toNat_lt
theorem sby_get {s : ByteArray} {i : Nat} (h1 : ((i : Nat) : Int).toNat < s.size) : ((s[((i : Nat) : Int).toNat]'h1).toNat : Int) = (((sby s).getD i 0 : Nat) : Int) := by
  have h3 : i < s.data.size := by simpa using h1
  have h4 : s[((i : Nat) : Int).toNat]'h1 = s.data[i]'h3 := rfl
  rw [h4, List.getD_eq_getElem?_getD]
  unfold sby
  rw [List.getElem?_map, Array.getElem?_toList, Array.getElem?_eq_getElem h3]
  rfl
end Go.V
/- strings.IndexByte: the library's contract, laid at this seat's numbers. -/
set_option maxRecDepth 100000
set_option maxHeartbeats 1000000
namespace Go.V
open Go.Shelf Go.RowKit Go.Proofs
def bRen217 : Ren := ⟨fun | 217 => 88 | 266 => 112 | n => n, fun | 3 => 3 | 5 => 5 | 9 => 9 | n => n, fun n => n⟩
theorem bLay217 : Lays.n217 Tryz.prog bRen217 := {
  mixed := by kernel_rfl
  f217 := Tryz.func88.trans (congrArg some (by kernel_rfl))
  f266 := Tryz.func112.trans (congrArg some (by kernel_rfl))
  t3 := Tryz.underlying3
  a3 := Tryz.isAgg3
  z3 := Tryz.sizeOf3
  v3 := Tryz.zeroValue3
  t5 := Tryz.underlying5
  a5 := Tryz.isAgg5
  z5 := Tryz.sizeOf5
  v5 := Tryz.zeroValue5
  t9 := Tryz.underlying9
  a9 := Tryz.isAgg9
  z9 := Tryz.sizeOf9
  v9 := Tryz.zeroValue9 }
theorem below_same (w : World) : Below w.heap.size w w := by
  refine ⟨?_, ?_, ?_, ?_, ?_⟩
  all_goals first | rfl | exact Nat.le_refl _ | (intros; rfl) | (intros; assumption)
theorem Zg8 (s : ByteArray) (c : Int) : PC C Zcn [.str s, .int .u8 c] (fun o => o = .ret (.int .i64 (Lib.indexByte s.data.toList c.toNat.toUInt8))) := by
  refine PC.of_below (v := .int .i64 (Lib.indexByte s.data.toList c.toNat.toUInt8)) Zcb (fun _ _ _ _ => by simp only [VR]) (fun w L μ H vs ha => ?_)
  simp only [VRs, VR] at ha
  obtain ⟨_, _, rfl, rfl, _, _, rfl, rfl, rfl⟩ := ha
  exact (Any.stringslite_IndexByte bLay217 s c w).mono fun e w' ⟨h1, h2⟩ => ⟨h1, by rw [h2]; exact below_same w⟩
end Go.V
set_option maxHeartbeats 4000000
set_option maxRecDepth 100000
set_option synthInstance.maxSize 100000
set_option synthInstance.maxHeartbeats 2000000
namespace Go.V
open Go.RowKit Go.Proofs
theorem ixB_nn : ∀ (l : List UInt8) (c : UInt8), Lib.indexByte l c ≥ 0 ↔ c ∈ l
  | [], c => by simp [Lib.indexByte]
  | b :: l, c => by
    have ih := ixB_nn l c
    unfold Lib.indexByte
    by_cases h : b = c
    · subst h; simp
    have h1 : (b == c) = false := beq_eq_false_iff_ne.2 h
    rw [h1]
    simp only [Bool.false_eq_true, if_false, List.mem_cons]
    have hne : ¬ c = b := fun e => h e.symm
    simp only [hne, false_or]
    by_cases h2 : (Lib.indexByte l c == -1) = true
    · rw [if_pos h2]
      have := eq_of_beq h2
      rw [← ih]; omega
    rw [if_neg h2]
    have h3 : ¬ Lib.indexByte l c = -1 := fun e => h2 (by rw [e]; rfl)
    rw [← ih]
    have h4 : -1 ≤ Lib.indexByte l c := by
      clear ih h2 h3
      induction l with
      | nil => unfold Lib.indexByte; omega
      | cons d l ih => unfold Lib.indexByte; split; omega; split; omega; omega
    omega
theorem Zj3 (s : ByteArray) (c : Int) : PC C ZdU [.str s, .int .u8 c] (fun o => o = .ret (.int .i64 (Lib.indexByte s.data.toList c.toNat.toUInt8))) := by
  refine PC.rn ZbA Zdp Zdq (rs := [.tmp 4]) (by rw [Zdr]) ?_
  refine ARun.seq (ARun.region ?_); refine zza ?_; refine AOps.nil (ARun.seq (ARun.region ?_)); refine zzm ?_; refine zzm ?_
  refine zzc rfl rfl (Zg8 s c) ?_
  refine zza ?_; refine AOps.nil ?_
  refine ARun.ret ?_
  refine ⟨_, _, _, .tmp rfl .nil, .cons (.same _) .nil, rfl, ?_⟩
  rfl
abbrev rdO (s : ByteArray) (i : Int) : Option AObj := some ⟨[.str s, .int .i64 i], Zha, 1, true, none⟩
def isAt (s : ByteArray) (i : Nat) (some' : ByteArray) : Bool := decide (i < s.size) && decide (UInt8.ofNat ((sby s).getD i 0) ∈ some'.data.toList)
theorem Zg9 (H : Heap) (k : Nat) (s : ByteArray) (i : Int) (hk : H[k]? = some (rdO s i)) : HC C ZdV H [.ptr k 0] (fun x H' => x = .pan (wrongW i) ∧ H' = H) := by
  refine HC.run ZbB Zds rfl Zdt (rs := []) (by rw [Zdu]) (by simp only [List.length_cons, List.length_nil, Nat.reduceAdd, Nat.reduceSub, List.replicate_succ, List.replicate_zero, List.cons_append, List.nil_append]; exact rfl) ?_
  refine ARun.region ?_; refine zzm ?_
  refine y_op rfl (q_nil rfl rfl) ?_
  refine y_op rfl (q_fldP rfl rfl rfl (by decide)) ?_
  refine y_op rfl (Zac rfl rfl rfl hk rfl) ?_
  refine y_op rfl (Zap rfl rfl rfl rfl rfl) ?_
  refine y_op rfl (Zg2 rfl rfl rfl) ?_
  exact Zkr rfl rfl ⟨_, _, .same _, rfl, rfl⟩
theorem hc_end (H : Heap) (k : Nat) (s : ByteArray) (i : Nat) (hk : H[k]? = some (rdO s i)) : HC C Zef H [.ptr k 0] (fun x H' => H' = H ∧ ((s.size ≤ i ∧ x = .ret (.tup [])) ∨ (i < s.size ∧ x = .pan (wrongW i)))) := by
  refine HC.run ZbM ZdR rfl ZdS (rs := []) (by rw [ZdT]) (by simp only [List.length_cons, List.length_nil, Nat.reduceAdd, Nat.reduceSub, List.replicate_succ, List.replicate_zero, List.cons_append, List.nil_append]; exact rfl) ?_
  refine ARun.seq ?_
  refine ARun.drawnP 10 (fun _ => False) mixC rfl rfl (by kernel_rfl) (fun _ _ h => h.elim) ?_
  refine .op rfl (q_move rfl) ?_
  refine .op rfl (q_nil rfl rfl) ?_
  refine .op rfl (q_fldP rfl rfl rfl (by decide)) ?_
  refine .op rfl (Zac rfl rfl rfl hk rfl) ?_
  refine .op rfl (q_move rfl) ?_
  refine .op rfl (q_nil rfl rfl) ?_
  refine .op rfl (q_fldP rfl rfl rfl (by decide)) ?_
  refine .op rfl (Zac rfl rfl rfl hk rfl) ?_
  refine .op rfl (Zb0 rfl rfl) ?_
  refine .op rfl (q_int rfl rfl rfl) ?_
  refine .nil (fun hG => ?_)
  refine AOps.nil ?_
  refine ARun.ite rfl (fun h => ?_) (fun h => ?_)
  · skip
    refine ARun.region ?_; refine zzm ?_
    refine Zau rfl rfl rfl rfl (Zg9 H k s i hk) (by rintro _ _ ⟨h, _⟩; cases h) (fun q H' hq => by obtain ⟨hq, rfl⟩ := hq; injection hq with hq; subst hq; exact ⟨_, _, .same _, rfl, .inr ⟨by omega, rfl⟩⟩)
  refine ARun.skip ?_
  refine ARun.nil ?_
  exact ⟨_, _, _, .nil, .nil, rfl, .inl ⟨by omega, rfl⟩⟩
theorem Zl5 (H : Heap) (k : Nat) (s some' : ByteArray) (i : Nat) (hk : H[k]? = some (rdO s i)) (hi : s.size ≤ 20000) (g : i < s.size) : HC C ZaB H [.ptr k 0, .str some'] (fun x H' => x = .ret (.bool (isAt s i some')) ∧ H' = (bif isAt s i some' then H.set k (rdO s ((i + 1 : Nat) : Int)) else H)) := by
  have hm := ixB_nn some'.data.toList (UInt8.ofNat ((sby s).getD i 0))
  refine HC.run ZaP Zbx rfl Zby (rs := [.tmp 4]) (by rw [Zbz]) (by simp only [List.length_cons, List.length_nil, Nat.reduceAdd, Nat.reduceSub, List.replicate_succ, List.replicate_zero, List.cons_append, List.nil_append]; exact rfl) ?_
  refine ARun.seq (ARun.region ?_); refine zza ?_; refine AOps.nil (ARun.seq (ARun.seq ?_))
  refine ARun.drawnP 24 (fun _ => False) mixC rfl rfl (by kernel_rfl) (fun _ _ h => h.elim) ?_
  refine .op rfl (q_move rfl) ?_
  refine .op rfl (q_nil rfl rfl) ?_
  refine .op rfl (q_fldP rfl rfl rfl (by decide)) ?_
  refine .op rfl (Zac rfl rfl rfl hk rfl) ?_
  refine .op rfl (q_move rfl) ?_
  refine .op rfl (q_nil rfl rfl) ?_
  refine .op rfl (q_fldP rfl rfl rfl (by decide)) ?_
  refine .op rfl (Zac rfl rfl rfl hk rfl) ?_
  refine .op rfl (Zb0 rfl rfl) ?_
  refine .op rfl (OpQ.cast (d' := .bool true) (q_int rfl rfl rfl) (by rw [decide_eq_true (by omega)])) ?_
  refine .op rfl (q_move rfl) ?_
  refine .op rfl (q_move rfl) ?_
  refine .op rfl (q_move rfl) ?_
  refine .op rfl (q_nil rfl rfl) ?_
  refine .op rfl (q_fldP rfl rfl rfl (by decide)) ?_
  refine .op rfl (Zac rfl rfl rfl hk rfl) ?_
  refine .op rfl (q_move rfl) ?_
  refine .op rfl (q_nil rfl rfl) ?_
  refine .op rfl (q_fldP rfl rfl rfl (by decide)) ?_
  refine .op rfl (Zac rfl rfl rfl hk rfl) ?_
  refine .op rfl (ZaW rfl rfl rfl (by omega) (by omega) (sby_get _)) ?_
  refine .op rfl (q_call rfl rfl (Zj3 some' (((sby s).getD i 0 : Nat) : Int))) ?_
  refine .op rfl (q_int rfl rfl rfl) ?_
  refine .op rfl (q_pick rfl rfl rfl rfl) ?_
  refine .nil (fun hG => ?_)
  refine AOps.nil ?_
  refine ARun.ite rfl (fun h => ?_) (fun h => ?_)
  · skip
    have e : isAt s i some' = true := by
      unfold isAt
      rw [decide_eq_true g, decide_eq_true (hm.1 h)]; rfl
    rw [e]
    refine ARun.seq (ARun.region ?_); refine zzm ?_
    refine y_op rfl (q_nil rfl rfl) ?_
    refine y_op rfl (q_fldP rfl rfl rfl (by decide)) ?_
    refine y_op rfl (Zac rfl rfl rfl hk rfl) ?_
    refine y_op rfl (q_add rfl rfl (nadd1_i64 (by omega))) ?_
    refine y_op rfl (q_nil rfl rfl) ?_
    refine y_op rfl (q_fldP rfl rfl rfl (by decide)) ?_
    refine y_new rfl (Zad rfl rfl rfl rfl hk rfl (Nat.le_of_ble_eq_true rfl) rfl) ?_
    refine AOps.nil (ARun.seq (ARun.region ?_)); refine zza ?_; refine AOps.nil ?_
    refine ARun.ret ?_
    exact ⟨_, _, _, .tmp rfl .nil, .cons (.same _) .nil, rfl, rfl⟩
  have e : isAt s i some' = false := by
    unfold isAt
    rw [decide_eq_true g, decide_eq_false (fun x => h (hm.2 x))]; rfl
  rw [e]
  refine ARun.skip (ARun.seq (ARun.region ?_)); refine zza ?_; refine AOps.nil ?_
  refine ARun.ret ?_
  exact ⟨_, _, _, .tmp rfl .nil, .cons (.same _) .nil, rfl, rfl⟩
theorem Zl6 (H : Heap) (k : Nat) (s some' : ByteArray) (i : Nat) (hk : H[k]? = some (rdO s i)) (g : ¬ i < s.size) : HC C ZaB H [.ptr k 0, .str some'] (fun x H' => x = .ret (.bool (isAt s i some')) ∧ H' = (bif isAt s i some' then H.set k (rdO s ((i + 1 : Nat) : Int)) else H)) := by
  have e : isAt s i some' = false := by
    unfold isAt
    rw [decide_eq_false g]; rfl
  rw [e]
  refine HC.run ZaP Zbx rfl Zby (rs := [.tmp 4]) (by rw [Zbz]) (by simp only [List.length_cons, List.length_nil, Nat.reduceAdd, Nat.reduceSub, List.replicate_succ, List.replicate_zero, List.cons_append, List.nil_append]; exact rfl) ?_
  refine ARun.seq (ARun.region ?_); refine zza ?_; refine AOps.nil (ARun.seq (ARun.seq ?_))
  refine ARun.drawnP 24 (fun _ => False) mixC rfl rfl (by kernel_rfl) (fun _ _ h => h.elim) ?_
  refine .op rfl (q_move rfl) ?_
  refine .op rfl (q_nil rfl rfl) ?_
  refine .op rfl (q_fldP rfl rfl rfl (by decide)) ?_
  refine .op rfl (Zac rfl rfl rfl hk rfl) ?_
  refine .op rfl (q_move rfl) ?_
  refine .op rfl (q_nil rfl rfl) ?_
  refine .op rfl (q_fldP rfl rfl rfl (by decide)) ?_
  refine .op rfl (Zac rfl rfl rfl hk rfl) ?_
  refine .op rfl (Zb0 rfl rfl) ?_
  refine .op rfl (OpQ.cast (d' := .bool false) (q_int rfl rfl rfl) (by rw [decide_eq_false (by omega)])) ?_
  refine .op rfl (q_move rfl) ?_
  refine .skip rfl ?_
  refine .skip rfl ?_
  refine .skip rfl ?_
  refine .skip rfl ?_
  refine .skip rfl ?_
  refine .skip rfl ?_
  refine .skip rfl ?_
  refine .skip rfl ?_
  refine .skip rfl ?_
  refine .skip rfl ?_
  refine .skip rfl ?_
  refine .skip rfl ?_
  refine .op rfl (q_pick rfl rfl rfl rfl) ?_
  refine .nil (fun hG => ?_)
  refine AOps.nil ?_
  refine ARun.condF rfl ?_
  refine ARun.skip (ARun.seq (ARun.region ?_)); refine zza ?_; refine AOps.nil ?_
  refine ARun.ret ?_
  exact ⟨_, _, _, .tmp rfl .nil, .cons (.same _) .nil, rfl, rfl⟩
theorem Zl7 (H : Heap) (k : Nat) (s some' : ByteArray) (i : Nat) (hk : H[k]? = some (rdO s i)) (hi : s.size ≤ 20000) : HC C ZaB H [.ptr k 0, .str some'] (fun x H' => x = .ret (.bool (isAt s i some')) ∧ H' = (bif isAt s i some' then H.set k (rdO s ((i + 1 : Nat) : Int)) else H)) :=
  (Decidable.em (i < s.size)).elim (Zl5 H k s some' i hk hi) (Zl6 H k s some' i hk)
end Go.V
set_option maxHeartbeats 4000000
set_option maxRecDepth 100000
set_option synthInstance.maxSize 100000
set_option synthInstance.maxHeartbeats 2000000
namespace Go.V
open Go.RowKit Go.Proofs
theorem set_same {H : Heap} {k : Nat} {v : Option AObj} (h : H[k]? = some v) : H.set k v = H := by
  have kl := (List.getElem?_eq_some_iff.1 h).1
  apply List.ext_getElem?
  intro j
  by_cases e : k = j
  · subst e; rw [List.getElem?_set_self kl, h]
  rw [List.getElem?_set_ne e]
theorem rd_get {H J : Heap} {k : Nat} {s : ByteArray} {i j : Int} (hk : H[k]? = some (rdO s i)) : (H.set k (rdO s j) ++ J)[k]? = some (rdO s j) := by
  have kl := (List.getElem?_eq_some_iff.1 hk).1
  rw [List.getElem?_append_left (by rw [List.length_set]; exact kl), List.getElem?_set_self kl]
theorem rd_set {H J : Heap} {k : Nat} {s : ByteArray} {i j j' : Int} (hk : H[k]? = some (rdO s i)) : (H.set k (rdO s j) ++ J).set k (rdO s j') = H.set k (rdO s j') ++ J := by
  have kl := (List.getElem?_eq_some_iff.1 hk).1
  rw [List.set_append_left _ _ (by rw [List.length_set]; exact kl), List.set_set]
end Go.V
set_option maxHeartbeats 4000000
set_option maxRecDepth 100000
set_option synthInstance.maxSize 100000
set_option synthInstance.maxHeartbeats 2000000
namespace Go.V
open Go.RowKit Go.Proofs
def nv (b : Nat) (l : List Nat) : Nat := l.foldl (fun a d => a * b + d) 0
theorem nv_from (b : Nat) : ∀ (l : List Nat) (a : Nat), l.foldl (fun a d => a * b + d) a = a * b ^ l.length + nv b l
  | [], a => by simp [nv]
  | d :: l, a => by
    unfold nv
    rw [List.foldl_cons, List.foldl_cons, nv_from b l, nv_from b l (0 * b + d), List.length_cons, Nat.pow_succ, Nat.zero_mul, Nat.zero_add, Nat.add_mul, Nat.mul_assoc, Nat.mul_comm b, Nat.add_assoc]
theorem nv_app (b : Nat) (l k : List Nat) : nv b (l ++ k) = nv b l * b ^ k.length + nv b k := by
  show (l ++ k).foldl _ 0 = _
  rw [List.foldl_append, nv_from]; rfl
theorem nv_snoc (b : Nat) (l : List Nat) (d : Nat) : nv b (l ++ [d]) = nv b l * b + d := by
  unfold nv; rw [List.foldl_append]; rfl
theorem nv_lt {b : Nat} (l : List Nat) (h : ∀ d ∈ l, d < b) : nv b l < b ^ l.length := by
  induction l with
  | nil => simp [nv]
  | cons d l ih =>
    have h1 := ih (fun x hx => h x (List.mem_cons_of_mem _ hx))
    have h2 := h d (List.mem_cons_self ..)
    have e : nv b (d :: l) = d * b ^ l.length + nv b l := by
      have := nv_app b [d] l
      rw [List.singleton_append] at this
      rw [this]; simp [nv]
    rw [e, List.length_cons, Nat.pow_succ, Nat.mul_comm (b ^ l.length) b]
    have h3 : (d + 1) * b ^ l.length ≤ b * b ^ l.length := Nat.mul_le_mul_right _ h2
    rw [Nat.add_mul, Nat.one_mul] at h3
    omega
theorem nv_take_le {b : Nat} (h : 1 ≤ b) (l : List Nat) (k : Nat) : nv b (l.take k) ≤ nv b l := by
  have h1 := nv_app b (l.take k) (l.drop k)
  rw [List.take_append_drop] at h1
  have h2 : 1 ≤ b ^ (l.drop k).length := Nat.pow_pos h
  have h3 := Nat.mul_le_mul_left (nv b (l.take k)) h2
  omega
theorem must_mulN {a b : Nat} (ha : (lim a).length ≤ 1024) (hb : (lim b).length ≤ 1024) : PC C Zay [numD (resN (lim a) (lim b) (.inl (val (lim a) * val (lim b)))).1, .int .i64 (resN (lim a) (lim b) (.inl (val (lim a) * val (lim b)))).2] (fun o => ((lim (a * b)).length ≤ 1024 ∧ o = .ret (numD (a * b))) ∨ ∃ p, (¬ (lim (a * b)).length ≤ 1024 ∧ p = failW 2) ∧ o = .pan p) := by
  rw [val_lim, val_lim]; exact must_add ha hb
theorem must_addN {a b : Nat} (ha : (lim a).length ≤ 1024) (hb : (lim b).length ≤ 1024) : PC C Zay [numD (resN (lim a) (lim b) (.inl (val (lim a) + val (lim b)))).1, .int .i64 (resN (lim a) (lim b) (.inl (val (lim a) + val (lim b)))).2] (fun o => ((lim (a + b)).length ≤ 1024 ∧ o = .ret (numD (a + b))) ∨ ∃ p, (¬ (lim (a + b)).length ≤ 1024 ∧ p = failW 2) ∧ o = .pan p) := by
  rw [val_lim, val_lim]; exact must_add ha hb
theorem ZkA (l : List Nat) (hl : l.length ≤ 20000) (b : Nat) (hb2 : 2 ≤ b) (hb36 : b ≤ 36) (hd : ∀ d ∈ l, d < b) : PC C ZdD [sln .i64 l, .int .i64 (b : Int)] (fun o => ((lim (nv b l)).length ≤ 1024 ∧ o = .ret (numD (nv b l))) ∨ (¬ (lim (nv b l)).length ≤ 1024 ∧ o = .pan (failW 2))) := by
  obtain ⟨m, hm0, hm1, hm2⟩ := chk_ex b hb2 (by omega)
  have hm32 : m < 32 := by
    rcases Nat.lt_or_ge m 32 with h3 | h3
    · exact h3
    exfalso
    have h4 := Nat.pow_le_pow_left hb2 m
    have h5 := Nat.pow_le_pow_right (n := 2) (by decide) h3
    omega
  refine PC.rn Zc2 Zgj Zgk (rs := [.tmp 4]) (by rw [Zgl]) ?_
  refine ARun.seq (ARun.region ?_); refine zza ?_; refine AOps.nil (ARun.seq (ARun.region ?_)); refine zzm ?_
  refine zzc rfl rfl (Zh6 b m hb2 hb36 hm0 hm1 hm2) ?_
  refine zzm ?_; refine zze ?_; refine zze ?_; refine zza ?_; refine zza ?_; refine AOps.nil (ARun.seq (ARun.region ?_)); refine zza ?_; refine AOps.nil (ARun.seq (ARun.block ?_))
  refine ARun.nil0 7 rfl ?_
  rw [← numD_zero, show numD 0 = numD (nv b (l.take 0)) from rfl]
  refine ARun.loopI (S := Nat) (fun j : Nat => [(8, .any), (9, .any), (10, .any), (12, .any), (18, .any), (19, .any), (20, .any), (21, .any), (22, .any), (23, .any), (24, .any), (25, .any), (26, .any), (27, .any), (28, .any), (29, .any), (30, .any), (31, .any), (32, .any), (33, .any), (34, .any), (35, .any), (36, .any), (37, .any), (38, .any), (39, .any), (40, .any), (41, .any), (42, .any), (43, .any), (44, .any), (45, .any), (46, .any), (47, .any), (48, .any), (49, .any), (50, .any), (51, .any), (52, .any), (53, .any), (54, .any), (55, .any), (56, .any), (57, .any), (58, .any), (59, .any), (60, .any), (61, .any), (62, .any), (63, .any), (0, sln .i64 (l.drop j)), (7, numD (nv b (l.take j)))]) (fun j : Nat => []) (fun j : Nat => j ≤ l.length ∧ (lim (nv b (l.take j))).length ≤ 1024) (fun j : Nat => l.length - j) (0) ?_ ?_ ?_ ?_
  · exact ⟨Nat.zero_le _, by show (lim 0).length ≤ 1024; rw [lim_zero]; decide⟩
  · (repeat' first | exact envLe_nil | apply envLe_any | apply envLe_same)
  · rfl
  rintro j hinv ih
  obtain ⟨hj, hf⟩ := hinv
  have hdl : (l.drop j).length = l.length - j := List.length_drop
  refine ARun.seq (ARun.seq (ARun.region ?_)); refine zzm ?_; refine zzN ?_; refine zzi ?_; refine AOps.nil ?_
  refine ARun.ite rfl (fun h => ?_) (fun h => ?_)
  · skip
    have hjl : j < l.length := by omega
    refine ARun.skip (ARun.block (ARun.seq (ARun.region ?_))); refine zzm ?_; refine zzN ?_; refine zzm ?_
    refine y_op rfl (q_rem (r := (((l.drop j).length % m : Nat) : Int)) rfl rfl (by omega) rfl) ?_
    refine zza ?_; refine AOps.nil (ARun.seq (ARun.seq (ARun.region ?_))); refine zzm ?_; refine zzi ?_; refine AOps.nil ?_
    refine ARun.join (S := Nat) (fun n : Nat => [(27, .any), (8, .int .i64 (n : Int))]) (fun n : Nat => 1 ≤ n ∧ n ≤ m ∧ n ≤ l.length - j) (fun run => ?_) ?_
    · skip
      have hmod := Nat.mod_lt (l.drop j).length hm0
      have hmle := Nat.mod_le (l.drop j).length m
      refine ARun.ite rfl (fun h3 => ?_) (fun h3 => ?_)
      · skip
        have h3' : (l.drop j).length % m = 0 := by omega
        have hmd : m ≤ (l.drop j).length := Nat.le_of_dvd (by omega) (Nat.dvd_of_mod_eq_zero h3')
        refine ARun.region ?_; refine zzm ?_; refine zza ?_; refine AOps.nil ?_
        exact ARun.ag (run (m) (⟨by omega, by omega, by omega⟩))
      refine ARun.skip ?_
      exact ARun.ag (run ((l.drop j).length % m) (⟨by omega, by omega, by omega⟩))
    rintro n hj
    try dsimp only at hj ⊢
    obtain ⟨n1, n2, n3⟩ := hj
    have ihO := ih
    have hdd : ∀ d ∈ l.drop j, d < b := fun d hx => hd d (List.mem_of_mem_drop hx)
    have hle : ∀ i, i ≤ n → nv b ((l.drop j).take i) < b ^ i ∧ b ^ i < 4294967296 := fun i hi => by
      have h5 := nv_lt (b := b) ((l.drop j).take i) (fun d hx => hdd d (List.mem_of_mem_take hx))
      rw [List.length_take, Nat.min_eq_left (by omega)] at h5
      exact ⟨h5, Nat.lt_of_le_of_lt (Nat.pow_le_pow_right (by omega) (by omega)) hm1⟩
    refine ARun.seq (ARun.region ?_); refine zza ?_; refine zza ?_; refine AOps.nil (ARun.seq (ARun.seq (ARun.region ?_))); refine zzm ?_; refine zzm ?_
    refine y_op rfl (Zd2 (m := n) (ds := nts .i64 ((l.drop j).take n)) rfl rfl rfl rfl rfl (bnd_nat rfl rfl) (by omega) (by omega) (by simp) (by simp) (by rw [nts_slice]; simp)) ?_
    refine zzN ?_; refine zzm ?_; refine AOps.nil (ARun.block ?_)
    refine ARun.loopI (S := Nat) (fun i : Nat => [(12, .any), (33, .any), (34, .any), (35, .any), (36, .any), (37, .any), (38, .any), (39, .any), (40, .any), (41, .any), (42, .any), (43, .any), (44, .any), (45, .any), (46, .any), (47, .any), (9, .int .u64 ((nv b ((l.drop j).take i) : Nat) : Int)), (10, .int .u64 ((b ^ i : Nat) : Int)), (32, .int .i64 (i : Int))]) (fun i : Nat => []) (fun i : Nat => i ≤ n) (fun i : Nat => n - i) (0) ?_ ?_ ?_ ?_
    · exact Nat.zero_le _
    · (repeat' first | exact envLe_nil | apply envLe_any | apply envLe_same)
    · rfl
    rintro i hinv ih
    obtain ⟨p1, p2⟩ := hle i hinv
    refine ARun.seq (ARun.region ?_); refine zzi ?_; refine AOps.nil (ARun.seq ?_)
    refine ARun.ite rfl (fun h4 => ?_) (fun h4 => ?_)
    · skip
      have hi : i < n := by omega
      have htl : ((l.drop j).take n).length = n := by rw [List.length_take]; omega
      have hdv : ((l.drop j).take n).getD i 0 = (l.drop j).getD i 0 := getD_take hi
      have hdb : (l.drop j).getD i 0 < b := by
        rw [List.getD_eq_getElem?_getD, List.getElem?_eq_getElem (by omega)]
        exact hdd _ (List.getElem_mem _)
      have hPb : nv b ((l.drop j).take i) * b ≤ 4294967296 * 36 := Nat.mul_le_mul (by omega) hb36
      have hSb : b ^ i * b ≤ 4294967296 * 36 := Nat.mul_le_mul (by omega) hb36
      have hs1 : nv b ((l.drop j).take (i + 1)) = nv b ((l.drop j).take i) * b + (l.drop j).getD i 0 := by
        rw [take_getD (by omega), nv_snoc]
      have hs2 : b ^ (i + 1) = b ^ i * b := Nat.pow_succ ..
      refine ARun.skip (ARun.seq (ARun.block (ARun.seq (ARun.region ?_))))
      refine y_op rfl (Zag (i := i) rfl rfl rfl rfl (by omega) (by omega) (nts_ne (by omega)) (drop_nat rfl)) ?_
      refine y_op rfl (q_load rfl rfl rfl (nts_load (i := i) (by omega))) ?_
      refine zza ?_; refine AOps.nil (ARun.region ?_); refine zzm ?_; refine zzm ?_
      refine y_op rfl (q_conv rfl rfl rfl (nconv_u64 (by omega))) ?_
      refine y_op rfl (q_mul rfl rfl (show _ = ((nv b ((l.drop j).take i) * b : Nat) : Int) by rw [← Int.natCast_mul, IntKind.wrap_u64]; omega)) ?_
      refine zzm ?_
      refine y_op rfl (q_conv rfl rfl rfl (nconv_u64 (by omega))) ?_
      refine y_op rfl (q_add rfl rfl (show _ = ((nv b ((l.drop j).take (i + 1)) : Nat) : Int) by rw [IntKind.wrap_u64, hdv, hs1]; omega)) ?_
      refine zzm ?_; refine zzm ?_
      refine y_op rfl (q_conv rfl rfl rfl (nconv_u64 (by omega))) ?_
      refine y_op rfl (q_mul rfl rfl (show _ = ((b ^ (i + 1) : Nat) : Int) by rw [← Int.natCast_mul, IntKind.wrap_u64, hs2]; omega)) ?_
      refine zza ?_; refine zza ?_; refine AOps.nil (ARun.inBlock (ARun.region ?_))
      refine y_op rfl (q_add rfl rfl (nadd1_i64 (by omega))) ?_
      refine zzm ?_; refine AOps.nil ?_
      refine ARun.again (ih (i + 1) ?_ ?_) ?_ ?_
      · exact hi
      · omega
      · (repeat' first | exact envLe_nil | apply envLe_any | apply envLe_same)
      rfl
    obtain rfl : i = n := by omega
    have hsum : nv b (l.take (j + i)) = nv b (l.take j) * b ^ i + nv b ((l.drop j).take i) := by
      have h6 := nv_app b (l.take j) ((l.drop j).take i)
      rw [← List.take_add, List.length_take, Nat.min_eq_left (by omega)] at h6
      exact h6
    have hall := nv_take_le (b := b) (by omega) l (j + i)
    have hfs : (lim (b ^ i)).length ≤ 1024 := Nat.le_trans (ln_le (k := 1) (by rw [Nat.pow_one, B_eq]; exact p2)) (by decide)
    have hfp : (lim (nv b ((l.drop j).take i))).length ≤ 1024 := Nat.le_trans (ln_le (k := 1) (by rw [Nat.pow_one, B_eq]; omega)) (by decide)
    refine ARun.exit rfl ?_
    refine ARun.seq (ARun.region ?_); refine zzm ?_; refine zzm ?_
    refine zzc rfl rfl (Zbf (b ^ i) (by omega)) ?_
    refine zzc rfl rfl (Zh4 (lim (nv b (l.take j))) (lim (b ^ i)) (U32_lim _) (U32_lim _)) ?_
    refine zze ?_; refine zze ?_
    refine y_gop rfl (g_call rfl rfl (must_mulN hf hfs)) (fun hg => ?_) (fun q hq => by obtain ⟨hq, rfl⟩ := hq; exact ⟨_, _, .same _, rfl, .inr ⟨fun hx => hq (Nat.le_trans (ln_mono (by omega)) hx), rfl⟩⟩)
    refine zzm ?_
    refine zzc rfl rfl (Zbf (nv b ((l.drop j).take i)) (by omega)) ?_
    refine zzc rfl rfl (Zh3 (lim (nv b (l.take j) * b ^ i)) (lim (nv b ((l.drop j).take i))) (U32_lim _) (U32_lim _)) ?_
    refine zze ?_; refine zze ?_
    refine y_gop rfl (g_call rfl rfl (must_addN hg hfp)) (fun hg2 => ?_) (fun q hq => by obtain ⟨hq, rfl⟩ := hq; exact ⟨_, _, .same _, rfl, .inr ⟨fun hx => hq (Nat.le_trans (ln_mono (by omega)) hx), rfl⟩⟩)
    rw [← hsum] at hg2 ⊢
    refine zza ?_; refine AOps.nil (ARun.region ?_); refine zzm ?_; refine zzm ?_
    refine y_op rfl (Zd2 (m := (l.drop (j + i)).length) (ds := nts .i64 (l.drop (j + i))) rfl rfl rfl rfl (bnd_nat rfl rfl) rfl (by omega) (by omega) (by simp) (by simp; omega) (by rw [nts_slice, List.take_of_length_le (Nat.le_refl _), List.drop_drop])) ?_
    refine zza ?_; refine AOps.nil (ARun.inBlock ?_)
    refine ARun.again (ihO (j + i) ?_ ?_) ?_ ?_
    · exact ⟨by omega, hg2⟩
    · omega
    · (repeat' first | exact envLe_nil | apply envLe_any | apply envLe_same)
    rfl
  obtain rfl : j = l.length := by omega
  rw [List.take_length] at hf ⊢
  refine ARun.exit rfl ?_
  refine ARun.seq (ARun.region ?_); refine zzm ?_; refine zza ?_; refine AOps.nil ?_
  refine ARun.ret ?_
  refine ⟨_, _, _, .tmp rfl .nil, .cons (.same _) .nil, rfl, ?_⟩
  exact .inl ⟨hf, rfl⟩
end Go.V
set_option maxHeartbeats 8000000
set_option maxRecDepth 100000
set_option synthInstance.maxSize 100000
set_option synthInstance.maxHeartbeats 2000000
namespace Go.V
open Go.RowKit Go.Proofs
end Go.V
namespace Go.V
theorem isAt_one {s : ByteArray} {i : Nat} {c : UInt8} : isAt s i ⟨#[c]⟩ = (decide (i < s.size) && decide ((sby s).getD i 0 = c.toNat)) := by
  have hlt := sby_lt (s := s) i
  unfold isAt
  congr 1
  apply decide_eq_decide.2
  show UInt8.ofNat ((sby s).getD i 0) ∈ [c] ↔ _
  rw [List.mem_singleton]
  constructor
  · intro h
    rw [← h, UInt8.toNat_ofNat']
    omega
  intro h
  rw [h]
  apply UInt8.toNat_inj.1
  rw [UInt8.toNat_ofNat']
  have := c.toNat_lt
  omega
end Go.V
namespace Go.V
theorem nv_dgs {b : Nat} (hb : 2 ≤ b) (a : Nat) : nv b (dgs b a).reverse = a := by
  induction a using Nat.strongRecOn with
  | _ a ih =>
    rcases Nat.eq_zero_or_pos a with h0 | h0
    · subst h0; rw [dgs_zero]; rfl
    rw [dgs_pos hb h0, List.reverse_cons, nv_snoc, ih _ (Nat.div_lt_self h0 (by omega))]
    exact Nat.div_add_mod' a b
def digs (b a : Nat) : List Nat := if a = 0 then [0] else (dgs b a).reverse
theorem digs_nv {b : Nat} (hb : 2 ≤ b) (a : Nat) : nv b (digs b a) = a := by
  unfold digs; split
  · rename_i h; subst h; simp [nv]
  exact nv_dgs hb a
theorem digs_lt {b : Nat} (hb : 2 ≤ b) (a : Nat) : ∀ d ∈ digs b a, d < b := by
  unfold digs; split
  · intro d hd; rw [List.mem_singleton] at hd; omega
  intro d hd; exact dgs_lt hb a d (List.mem_reverse.1 hd)
theorem digs_pos {b : Nat} (hb : 2 ≤ b) (a : Nat) : 0 < (digs b a).length := by
  unfold digs; split
  · exact Nat.one_pos
  rw [dgs_pos hb (by omega)]; simp
theorem txt_digs (b a : Nat) : txt b a = (digs b a).map fig := by
  unfold txt digs; split
  · rfl
  rw [List.map_reverse]
theorem digV_fig {d : Nat} (h : d < 36) : digV (fig d) = d := by unfold fig digV; (repeat' split) <;> omega
theorem fig_lt {d : Nat} (h : d < 36) : fig d < 256 := by unfold fig; split <;> omega
theorem sby_bytesOf {l : List Nat} (h : ∀ c ∈ l, c < 256) : sby (bytesOf l) = l := by
  unfold sby bytesOf
  simp only [List.map_map]
  conv => rhs; rw [← List.map_id l]
  apply List.map_congr_left
  intro c hc
  show (UInt8.ofNat c).toNat = c
  rw [UInt8.toNat_ofNat']
  have := h c hc
  omega
theorem dgs_ln {b a n : Nat} (hb : 2 ≤ b) (ha : (lim a).length ≤ n) : (dgs b a).length ≤ 32 * n := by
  suffices h : ∀ N, 32 * (lim a).length ≤ N → (dgs b a).length ≤ N from h _ (by omega)
  intro N hN
  apply dgs_len hb
  have h1 := ln_lt a
  rw [B_pow2] at h1
  exact Nat.lt_of_lt_of_le h1 (Nat.pow_le_pow_right (by decide) hN)
theorem digs_ln {b a n : Nat} (hb : 2 ≤ b) (ha : (lim a).length ≤ n) : (digs b a).length ≤ 32 * n + 1 := by
  unfold digs; split
  · simp
  rw [List.length_reverse]; have := dgs_ln hb ha; omega
def b4 (n : Nat) : List Nat := [48 + n / 8 % 2, 48 + n / 4 % 2, 48 + n / 2 % 2, 48 + n % 2]
end Go.V
namespace Go.V
def dqs (b : Nat) : Bool → List Nat → List Nat × Nat × Bool
  | q, [] => ([], 0, !q)
  | q, c :: l => if digV c < b then (digV c :: (dqs b false l).1, (dqs b false l).2.1 + 1, (dqs b false l).2.2)
      else if c = 39 ∧ q = false then ((dqs b true l).1, (dqs b true l).2.1 + 1, (dqs b true l).2.2) else ([], 0, !q)
theorem drop_at {s : ByteArray} {p : Nat} (h : p < s.size) : (sby s).drop p = (sby s).getD p 0 :: (sby s).drop (p + 1) := by
  have hl := sby_len s
  rw [List.drop_eq_getElem_cons (by omega), List.getD_eq_getElem?_getD, List.getElem?_eq_getElem (by omega)]; rfl
theorem drop_end {s : ByteArray} {p : Nat} (h : s.size ≤ p) : (sby s).drop p = [] := List.drop_eq_nil_of_le (by rw [sby_len]; exact h)
theorem dqs_dig {b : Nat} {s : ByteArray} {p : Nat} (q : Bool) (h : p < s.size) (hd : digV ((sby s).getD p 0) < b) :
    dqs b q ((sby s).drop p) = (digV ((sby s).getD p 0) :: (dqs b false ((sby s).drop (p + 1))).1, (dqs b false ((sby s).drop (p + 1))).2.1 + 1, (dqs b false ((sby s).drop (p + 1))).2.2) := by
  rw [drop_at h, dqs, if_pos hd]
theorem dqs_mark {b : Nat} {s : ByteArray} {p : Nat} (h : p < s.size) (hb : b ≤ 36) (hc : (sby s).getD p 0 = 39) :
    dqs b false ((sby s).drop p) = ((dqs b true ((sby s).drop (p + 1))).1, (dqs b true ((sby s).drop (p + 1))).2.1 + 1, (dqs b true ((sby s).drop (p + 1))).2.2) := by
  rw [drop_at h, dqs, if_neg (by rw [hc]; have : digV 39 = 36 := by decide
                                 omega), if_pos ⟨hc, rfl⟩]
theorem dqs_stop {b : Nat} {s : ByteArray} {p : Nat} (q : Bool) (h : p < s.size → ¬ digV ((sby s).getD p 0) < b ∧ (q = false → (sby s).getD p 0 ≠ 39)) :
    dqs b q ((sby s).drop p) = ([], 0, !q) := by
  rcases Nat.lt_or_ge p s.size with g | g
  · obtain ⟨h1, h2⟩ := h g
    rw [drop_at g, dqs, if_neg h1, if_neg (fun h3 => h2 h3.2 h3.1)]
  rw [drop_end g, dqs]
theorem dqs_lt {b : Nat} : ∀ (l : List Nat) (q : Bool), ∀ d ∈ (dqs b q l).1, d < b
  | [], q, d, h => by rw [dqs] at h; cases h
  | c :: l, q, d, h => by
    rw [dqs] at h
    split at h
    · rename_i hd
      rcases List.mem_cons.1 h with rfl | h
      · exact hd
      exact dqs_lt l false d h
    split at h
    · exact dqs_lt l true d h
    cases h
theorem dqs_len {b : Nat} : ∀ (l : List Nat) (q : Bool), (dqs b q l).1.length ≤ (dqs b q l).2.1 ∧ (dqs b q l).2.1 ≤ l.length
  | [], q => by rw [dqs]; exact ⟨Nat.le_refl _, Nat.le_refl _⟩
  | c :: l, q => by
    have h1 := dqs_len (b := b) l false
    have h2 := dqs_len (b := b) l true
    rw [dqs]
    split
    · simp only [List.length_cons]; omega
    split
    · simp only [List.length_cons]; omega
    exact ⟨Nat.le_refl _, Nat.zero_le _⟩
end Go.V
/- THE LENGTH OF A SLICE THAT GROWS; a statement that ends in one of several ways, with its heap. -/
namespace Go.V
open Go.RowKit
section
variable {C : Ctx} {Q : Post} {k : List Item} {env : List D} {H : Heap} {df : List ADef} {n S b : Nat} {J : Heap} {cs : List D} {F : Heap → Heap} {zv : Value} {x : Operand} {T e e' : TypeId} {dst : Option Tmp} {ty : TypeId} {pos : String} {aft : Array Edge} {gd : Option (Nat × Bool)}
theorem Zl8 [g : GrowL H n J e cs F] (hx : evO C env x = some (growD (n + J.length) cs)) (ht : C.ty T = some ⟨.slice e', S, b, zv⟩) : OpQ C ⟨dst, .call ⟨.builtin .len, #[x], #[T]⟩, ty, pos, aft, gd⟩ env H (.int .i64 (cs.length : Int)) := by
  obtain ⟨B, g1, g2, g3⟩ := g.prf
  subst g2
  subst g1
  cases cs with
  | nil => exact ZkH hx ht
  | cons c cs =>
    have ho : (B ++ growT J e (c :: cs))[B.length + J.length]? = some (some ⟨c :: cs, e, 1, true, none⟩) := by
      simp only [growT]
      rw [List.getElem?_append_right (by omega), Nat.add_sub_cancel_left, List.getElem?_append_right (by omega)]
      simp
    exact ZbG hx ho ht
end
theorem ARun.joinH {C : Ctx} {Q : Post} {k : List Item} {env : List D} {H : Heap} {df : List ADef} {S : Type} {c : Code} {E : S → List D} (cs : S → List (Nat × D)) (HS : S → Heap) (J : S → Prop) [hE : ∀ s, Puts env (cs s) (E s)] (h1 : (∀ s, J s → ARun C Q k (E s) (HS s) df) → ARun C Q (.code c :: k) env H df) (h2 : ∀ s, J s → ARun C Q k (E s) (HS s) df) : ARun C Q (.code c :: k) env H df := h1 h2
end Go.V
set_option maxHeartbeats 8000000
set_option maxRecDepth 100000
set_option synthInstance.maxSize 100000
set_option synthInstance.maxHeartbeats 2000000
namespace Go.V
open Go.RowKit Go.Proofs
abbrev sMark : ByteArray := ⟨#[39]⟩
abbrev dqA (b : Nat) (s : ByteArray) (q : Bool) (p : Nat) : List Nat × Nat × Bool := dqs b q ((sby s).drop p)
theorem isMark {s : ByteArray} {p : Nat} : isAt s p sMark = (decide (p < s.size) && decide ((sby s).getD p 0 = 39)) := isAt_one
structure MarkI (b : Nat) (s : ByteArray) (z : Bool) (p : Nat) (R : List Nat × Nat × Bool) (P : Nat) (Q : Bool) : Prop where
  pos : Q = false ∧ P = p ∨ Q = true ∧ P = p + 1
  le : P ≤ s.size
  val : R = ((dqA b s (Q || z) P).1, P - p + (dqA b s (Q || z) P).2.1, (dqA b s (Q || z) P).2.2)
  no : (Q || z) = false → P < s.size → (sby s).getD P 0 ≠ 39
theorem MarkI.none {b : Nat} {s : ByteArray} {z : Bool} {p : Nat} (hp : p ≤ s.size) (h : z = false → isAt s p sMark = false) : MarkI b s z p (dqA b s z p) p false := by
  refine ⟨.inl ⟨rfl, rfl⟩, hp, ?_, fun h1 h2 h3 => ?_⟩
  · rw [Bool.false_or, Nat.sub_self, Nat.zero_add]
  have := h h1
  rw [isMark, decide_eq_true h2, decide_eq_true h3] at this; cases this
theorem MarkI.one {b : Nat} {s : ByteArray} {z : Bool} {p : Nat} (hz : z = false) (hb : b ≤ 36) (h : isAt s p sMark = true) : MarkI b s z p (dqA b s z p) (p + 1) true := by
  subst hz
  rw [isMark, Bool.and_eq_true, decide_eq_true_eq, decide_eq_true_eq] at h
  refine ⟨.inr ⟨rfl, rfl⟩, h.1, ?_, fun h1 => by cases h1⟩
  rw [dqA, dqs_mark h.1 hb h.2, Bool.true_or, show p + 1 - p = 1 by omega, Nat.add_comm 1]
theorem Zlp (H : Heap) (k : Nat) (s : ByteArray) (i0 b ahead : Nat) (ha : ahead ≤ 1) (hs : s.size ≤ 20000) (hb : b ≤ 36) (hi : i0 ≤ s.size) (hk : H[k]? = some (rdO s i0)) : HC C Zc0 H [.ptr k 0, .int .i64 (b : Int), .bool true, .int .i64 (ahead : Int)]
    (fun x H' => ((dqA b s (decide (ahead = 0)) i0).2.2 = false ∧ x = .pan (wrongW ((i0 + (dqA b s (decide (ahead = 0)) i0).2.1 : Nat) : Int)) ∧ ∃ J, H' = H.set k (rdO s ((i0 + (dqA b s (decide (ahead = 0)) i0).2.1 : Nat) : Int)) ++ J) ∨ ((dqA b s (decide (ahead = 0)) i0).2.2 = true ∧ x = .ret (sln .i64 (dqA b s (decide (ahead = 0)) i0).1) ∧ ∃ J, H' = H.set k (rdO s ((i0 + (dqA b s (decide (ahead = 0)) i0).2.1 : Nat) : Int)) ++ J)) := by
  have kl := (List.getElem?_eq_some_iff.1 hk).1
  generalize hR : dqA b s (decide (ahead = 0)) i0 = R
  refine HC.run Zbj ZcJ rfl ZcK (rs := [.tmp 8]) (by rw [ZcL]) (by simp only [List.length_cons, List.length_nil, Nat.reduceAdd, Nat.reduceSub, List.replicate_succ, List.replicate_zero, List.cons_append, List.nil_append]; exact rfl) ?_
  refine ARun.seq (ARun.region ?_); refine zza ?_; refine AOps.nil (ARun.seq (ARun.region ?_)); refine zza ?_; refine AOps.nil (ARun.block ?_)
  refine ARun.hp (H' := H.set k (rdO s ((i0 + 0 : Nat) : Int)) ++ growT [] t_int (nts .i64 [])) (by show H = H.set k _ ++ []; rw [List.append_nil, Nat.add_zero]; exact (set_same hk).symm) ?_
  refine ARun.loopI (S := Nat × List Nat × Heap) (fun σ : Nat × List Nat × Heap => [(8, .any), (10, .any), (11, .any), (12, .any), (13, .any), (14, .any), (15, .any), (16, .any), (17, .any), (18, .any), (19, .any), (20, .any), (21, .any), (22, .any), (23, .any), (24, .any), (25, .any), (26, .any), (27, .any), (28, .any), (29, .any), (30, .any), (31, .any), (32, .any), (33, .any), (34, .any), (35, .any), (36, .any), (37, .any), (38, .any), (39, .any), (40, .any), (41, .any), (42, .any), (43, .any), (44, .any), (45, .any), (46, .any), (47, .any), (48, .any), (49, .any), (50, .any), (51, .any), (52, .any), (53, .any), (54, .any), (55, .any), (56, .any), (57, .any), (58, .any), (59, .any), (60, .any), (61, .any), (62, .any), (63, .any), (64, .any), (65, .any), (66, .any), (67, .any), (68, .any), (69, .any), (70, .any), (71, .any), (72, .any), (73, .any), (74, .any), (75, .any), (76, .any), (77, .any), (78, .any), (79, .any), (80, .any), (81, .any), (82, .any), (83, .any), (84, .any), (85, .any), (86, .any), (9, growD (H.length + σ.2.2.length) (nts .i64 σ.2.1))]) (fun σ : Nat × List Nat × Heap => H.set k (rdO s ((i0 + σ.1 : Nat) : Int)) ++ growT σ.2.2 t_int (nts .i64 σ.2.1)) (fun σ : Nat × List Nat × Heap => i0 + σ.1 ≤ s.size ∧ σ.2.1.length ≤ σ.1 ∧ R = (σ.2.1 ++ (dqA b s (decide (ahead + σ.2.1.length = 0)) (i0 + σ.1)).1, σ.1 + (dqA b s (decide (ahead + σ.2.1.length = 0)) (i0 + σ.1)).2.1, (dqA b s (decide (ahead + σ.2.1.length = 0)) (i0 + σ.1)).2.2)) (fun σ : Nat × List Nat × Heap => s.size - (i0 + σ.1)) ((0, [], [])) ?_ ?_ ?_ ?_
  · exact ⟨hi, Nat.le_refl _, by dsimp only; rw [← hR, List.nil_append, Nat.zero_add]; rfl⟩
  · (repeat' first | exact envLe_nil | apply envLe_any | apply envLe_same)
  · rfl
  rintro ⟨m, L, J⟩ hinv ih
  dsimp only at hinv ih ⊢
  obtain ⟨hm, hLm, hinv⟩ := hinv
  have hnl : (nts .i64 L).length = L.length := nts_length
  refine ARun.block (ARun.seq (ARun.region ?_)); refine zzm ?_
  refine y_op rfl (q_nil rfl rfl) ?_
  refine y_op rfl (q_fldP rfl rfl rfl (by decide)) ?_
  refine y_op rfl (Zac rfl rfl rfl (rd_get hk) rfl) ?_
  refine zza ?_; refine AOps.nil (ARun.seq ?_)
  refine ARun.joinH (S := Nat × Bool) (fun σ : Nat × Bool => [(16, .any), (17, .any), (18, .any), (19, .any), (20, .any), (21, .any), (22, .any), (23, .any), (24, .any), (25, .any), (26, .any), (27, .any), (10, .int .i64 ((i0 + m : Nat) : Int)), (11, .bool σ.2)]) (fun σ : Nat × Bool => H.set k (rdO s ((σ.1 : Nat) : Int)) ++ growT J t_int (nts .i64 L)) (fun σ : Nat × Bool => MarkI b s (decide (ahead + L.length = 0)) (i0 + m) (dqA b s (decide (ahead + L.length = 0)) (i0 + m)) σ.1 σ.2) (fun run => ?_) ?_
  · skip
    refine ARun.region ?_; refine zzm ?_; refine zzm ?_; refine zzm ?_; refine zzm ?_
    refine y_op rfl (OpQ.cast (Zl8 (cs := nts .i64 L) (H := H.set k (rdO s ((i0 + m : Nat) : Int)) ++ growT J t_int (nts .i64 L)) (by rw [List.length_set]; rfl) rfl) (by rw [hnl])) ?_
    refine y_op rfl (q_add rfl rfl (show _ = ((ahead + L.length : Nat) : Int) by rw [IntWalk.i64_in _ (by omega)]; omega)) ?_
    refine y_op rfl (OpQ.cast (d' := .bool (!decide (ahead + L.length = 0))) (q_int rfl rfl rfl) (by congr 1; rw [← decide_not]; apply decide_eq_decide.2; omega)) ?_
    refine zzp ?_; refine zzm ?_
    refine AOps.bool 24 rfl (fun hz => ?_) (fun hz => ?_)
    · skip
      have hz : decide (ahead + L.length = 0) = false := by rw [Bool.not_eq_true'] at hz; exact hz
      refine zzm ?_
      refine Zau rfl rfl rfl rfl (Zl7 _ k s sMark (i0 + m) (rd_get hk) hs) ?_ (by rintro _ _ ⟨h, _⟩; cases h)
      rintro _ _ ⟨h, rfl⟩
      injection h with h
      subst h
      refine zzp ?_; refine zza ?_; refine AOps.nil ?_
      rcases hq : isAt s (i0 + m) sMark with _ | _
      · skip
        exact ARun.ag (run ((i0 + m, false)) (MarkI.none hm (fun _ => hq)))
      exact ARun.again (run ((i0 + m + 1, true)) (MarkI.one hz hb hq)) (by (repeat' first | exact envLe_nil | apply envLe_any | apply envLe_same)) (rd_set hk)
    have hz : decide (ahead + L.length = 0) = true := by rw [Bool.not_eq_false'] at hz; exact hz
    refine zzk ?_; refine zzk ?_; refine zzp ?_; refine zza ?_; refine AOps.nil ?_
    exact ARun.ag (run ((i0 + m, false)) (MarkI.none hm (fun h => by rw [hz] at h; cases h)))
  rintro ⟨P, Q⟩ hj
  try dsimp only at hj ⊢
  have hP := hj.le
  have hpos := hj.pos
  have hno := hj.no
  have hval := hj.val
  rw [hval] at hinv
  rcases Nat.lt_or_ge P s.size with g | g
  · skip
    refine ARun.seq (ARun.seq ?_)
    refine ARun.drawnP 24 (fun _ => False) mixC rfl rfl (by kernel_rfl) (fun _ _ h => h.elim) ?_
    refine .op rfl (q_move rfl) ?_
    refine .op rfl (q_nil rfl rfl) ?_
    refine .op rfl (q_fldP rfl rfl rfl (by decide)) ?_
    refine .op rfl (Zac rfl rfl rfl (rd_get hk) rfl) ?_
    refine .op rfl (q_move rfl) ?_
    refine .op rfl (q_nil rfl rfl) ?_
    refine .op rfl (q_fldP rfl rfl rfl (by decide)) ?_
    refine .op rfl (Zac rfl rfl rfl (rd_get hk) rfl) ?_
    refine .op rfl (Zb0 rfl rfl) ?_
    refine .op rfl (OpQ.cast (d' := .bool true) (q_int rfl rfl rfl) (by rw [decide_eq_true (by omega)])) ?_
    refine .op rfl (q_move rfl) ?_
    refine .op rfl (q_move rfl) ?_
    refine .op rfl (q_nil rfl rfl) ?_
    refine .op rfl (q_fldP rfl rfl rfl (by decide)) ?_
    refine .op rfl (Zac rfl rfl rfl (rd_get hk) rfl) ?_
    refine .op rfl (q_move rfl) ?_
    refine .op rfl (q_nil rfl rfl) ?_
    refine .op rfl (q_fldP rfl rfl rfl (by decide)) ?_
    refine .op rfl (Zac rfl rfl rfl (rd_get hk) rfl) ?_
    refine .op rfl (ZaW rfl rfl rfl (by omega) (by omega) (sby_get _)) ?_
    refine .op rfl (q_call rfl rfl (Zh7 ((sby s).getD P 0) (sby_lt _))) ?_
    refine .op rfl (q_move rfl) ?_
    refine .op rfl (q_int rfl rfl rfl) ?_
    refine .op rfl (q_pick rfl rfl rfl rfl) ?_
    refine .nil (fun hG => ?_)
    refine AOps.nil ?_
    refine ARun.ite rfl (fun h => ?_) (fun h => ?_)
    · skip
      have h : digV ((sby s).getD P 0) < b := by omega
      rw [dqA, dqs_dig _ g h] at hinv
      refine ARun.seq ?_
      refine ARun.drawnP 12 (fun _ => False) mixC rfl rfl (by kernel_rfl) (fun _ _ h => h.elim) ?_
      refine .op rfl (q_move rfl) ?_
      refine .op rfl (q_move rfl) ?_
      refine .op rfl (q_nil rfl rfl) ?_
      refine .op rfl (q_fldP rfl rfl rfl (by decide)) ?_
      refine .op rfl (Zac rfl rfl rfl (rd_get hk) rfl) ?_
      refine .op rfl (q_move rfl) ?_
      refine .op rfl (q_nil rfl rfl) ?_
      refine .op rfl (q_fldP rfl rfl rfl (by decide)) ?_
      refine .op rfl (Zac rfl rfl rfl (rd_get hk) rfl) ?_
      refine .op rfl (ZaW rfl rfl rfl (by omega) (by omega) (sby_get _)) ?_
      refine .op rfl (q_call rfl rfl (Zh7 ((sby s).getD P 0) (sby_lt _))) ?_
      refine .op rfl (Zan rfl rfl rfl rfl rfl rfl rfl rfl rfl rfl rfl (by decide) (by decide) rfl) ?_
      refine .nil (fun hG => ?_)
      refine ZmL (dx := .int .i64 ((digV ((sby s).getD P 0) : Nat) : Int)) rfl rfl rfl rfl rfl rfl rfl (by rw [List.length_set]; rfl) rfl (by show (_ + 1) * 8 ≤ _; omega) (by omega) (fun J' => ?_)
      rw [nts_snoc]
      refine zza ?_; refine AOps.nil (ARun.seq (ARun.region ?_)); refine zzm ?_
      refine y_op rfl (q_nil rfl rfl) ?_
      refine y_op rfl (q_fldP rfl rfl rfl (by decide)) ?_
      refine y_op rfl (Zac rfl rfl rfl (rd_get hk) rfl) ?_
      refine y_op rfl (q_add rfl rfl (show _ = ((i0 + (P + 1 - i0) : Nat) : Int) by rw [IntWalk.i64_in _ (by omega)]; omega)) ?_
      refine y_op rfl (q_nil rfl rfl) ?_
      refine y_op rfl (q_fldP rfl rfl rfl (by decide)) ?_
      refine y_new rfl (Zad rfl rfl rfl rfl (rd_get hk) rfl (Nat.le_of_ble_eq_true rfl) rfl) (AOps.hp (rd_set hk) ?_)
      refine AOps.nil ?_
      refine ARun.exit rfl ?_
      rw [List.length_set]
      refine ARun.again (ih ((P + 1 - i0, L ++ [digV ((sby s).getD P 0)], J')) ?_ ?_) ?_ ?_
      · exact ⟨by dsimp only; omega, by dsimp only; rw [List.length_append, List.length_singleton]; omega, by dsimp only; rw [show decide (ahead + (L ++ [digV ((sby s).getD P 0)]).length = 0) = false from decide_eq_false (by rw [List.length_append, List.length_singleton]; omega), show i0 + (P + 1 - i0) = P + 1 by omega, hinv, List.append_assoc]; refine Prod.ext rfl (Prod.ext ?_ rfl); show m + (P - (i0 + m) + ((dqA b s false (P + 1)).2.1 + 1)) = P + 1 - i0 + (dqA b s false (P + 1)).2.1; omega⟩
      · (dsimp only; omega)
      · (repeat' first | exact envLe_nil | apply envLe_any | apply envLe_same)
      rfl
    have h : ¬ digV ((sby s).getD P 0) < b := by omega
    have hst := dqs_stop (b := b) (s := s) (p := P) (Q || decide (ahead + L.length = 0)) (fun _ => ⟨h, fun hq => hno hq g⟩)
    rw [dqA, hst] at hinv
    replace hinv : R = (L, m + (P - (i0 + m)), !(Q || decide (ahead + L.length = 0))) := by rw [hinv]; exact Prod.ext (List.append_nil L) rfl
    refine ARun.growEnd 9 (by rw [List.length_set]; rfl) (pures_nts _) (fun J' => ?_)
    rw [sln_len]
    rcases Q with _ | _
    · skip
      refine ARun.skip (ARun.seq (ARun.seq (ARun.region ?_))); refine zzm ?_; refine zzm ?_; refine zzm ?_; refine zzm ?_; refine zzN ?_
      refine y_op rfl (q_add rfl rfl (show _ = ((ahead + L.length : Nat) : Int) by rw [IntWalk.i64_in _ (by omega)]; omega)) ?_
      refine y_op rfl (OpQ.cast (d' := .bool (decide (ahead + L.length = 0))) (q_int rfl rfl rfl) (by congr 1; apply decide_eq_decide.2; omega)) ?_
      refine zzp ?_; refine AOps.nil ?_
      refine ARun.cond rfl (fun hz => ?_) (fun hz => ?_)
      · skip
        refine ARun.region ?_; refine zzm ?_
        refine Zau rfl rfl rfl rfl (Zg9 _ k s _ (rd_get hk)) (by rintro _ _ ⟨h, _⟩; cases h) (fun q H' hq => by obtain ⟨hq, rfl⟩ := hq; injection hq with hq; subst hq; exact ⟨_, _, .same _, .inl ⟨by rw [hinv, hz]; rfl, by rw [hinv]; show Out.pan (wrongW _) = .pan (wrongW _); congr 2; dsimp only; omega, J', by rw [hinv]; show _ = H.set k (rdO s ((i0 + (m + (P - (i0 + m))) : Nat) : Int)) ++ J'; rw [show i0 + (m + (P - (i0 + m))) = P by omega]; rfl⟩⟩)
      obtain rfl : P = i0 + m := by rcases hpos with ⟨_, h⟩ | ⟨h, _⟩ <;> first | exact h | cases h
      refine ARun.skip (ARun.seq (ARun.region ?_)); refine zzm ?_; refine zzm ?_
      refine y_op rfl (q_nil rfl rfl) ?_
      refine y_op rfl (q_fldP rfl rfl rfl (by decide)) ?_
      refine y_new rfl (Zad rfl rfl rfl rfl (rd_get hk) rfl (Nat.le_of_ble_eq_true rfl) rfl) (AOps.hp (rd_set hk) ?_)
      refine AOps.nil (ARun.seq (ARun.region ?_)); refine zzm ?_; refine zza ?_; refine AOps.nil ?_
      refine ARun.ret ?_
      exact ⟨_, _, _, .tmp rfl .nil, .cons (.same _) .nil, .inr ⟨by rw [hinv, hz]; rfl, by rw [hinv]; rfl, J', by rw [hinv, Nat.sub_self]; rfl⟩⟩
    refine ARun.skip (ARun.seq (ARun.seq (ARun.region ?_))); refine zzm ?_; refine zzm ?_; refine zzk ?_; refine zzk ?_; refine zzk ?_; refine zzk ?_; refine zzk ?_; refine zzp ?_; refine AOps.nil ?_
    refine ARun.condT rfl ?_
    refine ARun.region ?_; refine zzm ?_
    refine Zau rfl rfl rfl rfl (Zg9 _ k s _ (rd_get hk)) (by rintro _ _ ⟨h, _⟩; cases h) (fun q H' hq => by obtain ⟨hq, rfl⟩ := hq; injection hq with hq; subst hq; exact ⟨_, _, .same _, .inl ⟨by rw [hinv]; rfl, by rw [hinv]; show Out.pan (wrongW _) = .pan (wrongW _); congr 2; dsimp only; omega, J', by rw [hinv]; show _ = H.set k (rdO s ((i0 + (m + (P - (i0 + m))) : Nat) : Int)) ++ J'; rw [show i0 + (m + (P - (i0 + m))) = P by omega]; rfl⟩⟩)
  refine ARun.seq (ARun.seq ?_)
  refine ARun.drawnP 24 (fun _ => False) mixC rfl rfl (by kernel_rfl) (fun _ _ h => h.elim) ?_
  refine .op rfl (q_move rfl) ?_
  refine .op rfl (q_nil rfl rfl) ?_
  refine .op rfl (q_fldP rfl rfl rfl (by decide)) ?_
  refine .op rfl (Zac rfl rfl rfl (rd_get hk) rfl) ?_
  refine .op rfl (q_move rfl) ?_
  refine .op rfl (q_nil rfl rfl) ?_
  refine .op rfl (q_fldP rfl rfl rfl (by decide)) ?_
  refine .op rfl (Zac rfl rfl rfl (rd_get hk) rfl) ?_
  refine .op rfl (Zb0 rfl rfl) ?_
  refine .op rfl (OpQ.cast (d' := .bool false) (q_int rfl rfl rfl) (by rw [decide_eq_false (by omega)])) ?_
  refine .op rfl (q_move rfl) ?_
  refine .skip rfl ?_
  refine .skip rfl ?_
  refine .skip rfl ?_
  refine .skip rfl ?_
  refine .skip rfl ?_
  refine .skip rfl ?_
  refine .skip rfl ?_
  refine .skip rfl ?_
  refine .skip rfl ?_
  refine .skip rfl ?_
  refine .skip rfl ?_
  refine .skip rfl ?_
  refine .op rfl (q_pick rfl rfl rfl rfl) ?_
  refine .nil (fun hG => ?_)
  refine AOps.nil ?_
  refine ARun.condF rfl ?_
  have hst := dqs_stop (b := b) (s := s) (p := P) (Q || decide (ahead + L.length = 0)) (fun g' => absurd g' (by omega))
  rw [dqA, hst] at hinv
  replace hinv : R = (L, m + (P - (i0 + m)), !(Q || decide (ahead + L.length = 0))) := by rw [hinv]; exact Prod.ext (List.append_nil L) rfl
  refine ARun.growEnd 9 (by rw [List.length_set]; rfl) (pures_nts _) (fun J' => ?_)
  rw [sln_len]
  rcases Q with _ | _
  · skip
    refine ARun.skip (ARun.seq (ARun.seq (ARun.region ?_))); refine zzm ?_; refine zzm ?_; refine zzm ?_; refine zzm ?_; refine zzN ?_
    refine y_op rfl (q_add rfl rfl (show _ = ((ahead + L.length : Nat) : Int) by rw [IntWalk.i64_in _ (by omega)]; omega)) ?_
    refine y_op rfl (OpQ.cast (d' := .bool (decide (ahead + L.length = 0))) (q_int rfl rfl rfl) (by congr 1; apply decide_eq_decide.2; omega)) ?_
    refine zzp ?_; refine AOps.nil ?_
    refine ARun.cond rfl (fun hz => ?_) (fun hz => ?_)
    · skip
      refine ARun.region ?_; refine zzm ?_
      refine Zau rfl rfl rfl rfl (Zg9 _ k s _ (rd_get hk)) (by rintro _ _ ⟨h, _⟩; cases h) (fun q H' hq => by obtain ⟨hq, rfl⟩ := hq; injection hq with hq; subst hq; exact ⟨_, _, .same _, .inl ⟨by rw [hinv, hz]; rfl, by rw [hinv]; show Out.pan (wrongW _) = .pan (wrongW _); congr 2; dsimp only; omega, J', by rw [hinv]; show _ = H.set k (rdO s ((i0 + (m + (P - (i0 + m))) : Nat) : Int)) ++ J'; rw [show i0 + (m + (P - (i0 + m))) = P by omega]; rfl⟩⟩)
    obtain rfl : P = i0 + m := by rcases hpos with ⟨_, h⟩ | ⟨h, _⟩ <;> first | exact h | cases h
    refine ARun.skip (ARun.seq (ARun.region ?_)); refine zzm ?_; refine zzm ?_
    refine y_op rfl (q_nil rfl rfl) ?_
    refine y_op rfl (q_fldP rfl rfl rfl (by decide)) ?_
    refine y_new rfl (Zad rfl rfl rfl rfl (rd_get hk) rfl (Nat.le_of_ble_eq_true rfl) rfl) (AOps.hp (rd_set hk) ?_)
    refine AOps.nil (ARun.seq (ARun.region ?_)); refine zzm ?_; refine zza ?_; refine AOps.nil ?_
    refine ARun.ret ?_
    exact ⟨_, _, _, .tmp rfl .nil, .cons (.same _) .nil, .inr ⟨by rw [hinv, hz]; rfl, by rw [hinv]; rfl, J', by rw [hinv, Nat.sub_self]; rfl⟩⟩
  refine ARun.skip (ARun.seq (ARun.seq (ARun.region ?_))); refine zzm ?_; refine zzm ?_; refine zzk ?_; refine zzk ?_; refine zzk ?_; refine zzk ?_; refine zzk ?_; refine zzp ?_; refine AOps.nil ?_
  refine ARun.condT rfl ?_
  refine ARun.region ?_; refine zzm ?_
  refine Zau rfl rfl rfl rfl (Zg9 _ k s _ (rd_get hk)) (by rintro _ _ ⟨h, _⟩; cases h) (fun q H' hq => by obtain ⟨hq, rfl⟩ := hq; injection hq with hq; subst hq; exact ⟨_, _, .same _, .inl ⟨by rw [hinv]; rfl, by rw [hinv]; show Out.pan (wrongW _) = .pan (wrongW _); congr 2; dsimp only; omega, J', by rw [hinv]; show _ = H.set k (rdO s ((i0 + (m + (P - (i0 + m))) : Nat) : Int)) ++ J'; rw [show i0 + (m + (P - (i0 + m))) = P by omega]; rfl⟩⟩)
end Go.V
set_option maxHeartbeats 8000000
set_option maxRecDepth 100000
set_option synthInstance.maxSize 100000
set_option synthInstance.maxHeartbeats 2000000
namespace Go.V
open Go.RowKit Go.Proofs
end Go.V
set_option maxHeartbeats 8000000
set_option maxRecDepth 100000
set_option synthInstance.maxSize 100000
set_option synthInstance.maxHeartbeats 2000000
namespace Go.V
open Go.RowKit Go.Proofs
abbrev sZero : ByteArray := ⟨#[48]⟩
abbrev sX : ByteArray := ⟨#[120, 88]⟩
abbrev sB : ByteArray := ⟨#[98, 66]⟩
abbrev sU : ByteArray := ⟨#[117, 85]⟩
abbrev sL1 : ByteArray := ⟨#[108]⟩
abbrev sL2 : ByteArray := ⟨#[76]⟩
def bF (s : ByteArray) : Nat × Nat := bif isAt s 0 sZero then (bif isAt s 1 sX then (16, 2) else bif isAt s 1 sB then (2, 2) else (8, 0)) else (10, 0)
end Go.V
set_option maxHeartbeats 8000000
set_option maxRecDepth 100000
set_option synthInstance.maxSize 100000
set_option synthInstance.maxHeartbeats 2000000
namespace Go.V
open Go.RowKit Go.Proofs
def lenA (s : ByteArray) (p : Nat) : Nat := bif isAt s p sL1 then (bif isAt s (p + 1) sL1 then 2 else 1) else bif isAt s p sL2 then (bif isAt s (p + 1) sL2 then 2 else 1) else 0
def bN (b : Bool) : Nat := bif b then 1 else 0
def sfx (s : ByteArray) (p : Nat) : Nat × Bool × Nat :=
  (p + bN (isAt s p sU) + lenA s (p + bN (isAt s p sU)) + bN (!isAt s p sU && isAt s (p + bN (isAt s p sU) + lenA s (p + bN (isAt s p sU))) sU),
    isAt s p sU || isAt s (p + bN (isAt s p sU) + lenA s (p + bN (isAt s p sU))) sU, lenA s (p + bN (isAt s p sU)))
end Go.V
set_option maxHeartbeats 8000000
set_option maxRecDepth 100000
set_option synthInstance.maxSize 100000
set_option synthInstance.maxHeartbeats 2000000
namespace Go.V
open Go.RowKit Go.Proofs
abbrev Cn := Nat × Nat × Bool × Nat
noncomputable def parseC (s : ByteArray) : Cn × Int × Int :=
  if 20000 < s.size then ((0, 0, false, 0), 2, 0) else
  if (dqA (bF s).1 s true (bF s).2).2.2 = false then ((0, 0, false, 0), 6, (((bF s).2 + (dqA (bF s).1 s true (bF s).2).2.1 : Nat) : Int)) else
  if (sfx s ((bF s).2 + (dqA (bF s).1 s true (bF s).2).2.1)).1 < s.size then ((0, 0, false, 0), 6, (((sfx s ((bF s).2 + (dqA (bF s).1 s true (bF s).2).2.1)).1 : Nat) : Int)) else
  if (lim (nv (bF s).1 (dqA (bF s).1 s true (bF s).2).1)).length ≤ 1024 then ((nv (bF s).1 (dqA (bF s).1 s true (bF s).2).1, (bF s).1, (sfx s ((bF s).2 + (dqA (bF s).1 s true (bF s).2).2.1)).2), 0, 0) else ((0, 0, false, 0), 2, 0)
abbrev cnL (c : Cn) : List D := [numD c.1, .int .i64 ((c.2.1 : Nat) : Int), .bool c.2.2.1, .int .i64 ((c.2.2.2 : Nat) : Int)]
abbrev cnD (c : Cn) : D := .agg (cnL c)
theorem isAt_size {s x : ByteArray} {i : Nat} (h : isAt s i x = true) : i < s.size := by
  unfold isAt at h
  rw [Bool.and_eq_true] at h
  exact of_decide_eq_true h.1
theorem bF_ok (s : ByteArray) : 2 ≤ (bF s).1 ∧ (bF s).1 ≤ 16 ∧ (bF s).2 ≤ s.size := by
  unfold bF
  cases h0 : isAt s 0 sZero
  · exact ⟨Nat.le_of_ble_eq_true rfl, Nat.le_of_ble_eq_true rfl, Nat.zero_le _⟩
  have := isAt_size h0
  cases h1 : isAt s 1 sX
  · cases h2 : isAt s 1 sB
    · exact ⟨Nat.le_of_ble_eq_true rfl, Nat.le_of_ble_eq_true rfl, Nat.zero_le _⟩
    have := isAt_size h2; exact ⟨Nat.le_of_ble_eq_true rfl, Nat.le_of_ble_eq_true rfl, this⟩
  have := isAt_size h1; exact ⟨Nat.le_of_ble_eq_true rfl, Nat.le_of_ble_eq_true rfl, this⟩
theorem dqA_le {b : Nat} {s : ByteArray} {q : Bool} {i : Nat} (hi : i ≤ s.size) : i + (dqA b s q i).2.1 ≤ s.size ∧ (dqA b s q i).1.length ≤ s.size := by
  have h := dqs_len (b := b) ((sby s).drop i) q
  rw [List.length_drop, sby_len] at h
  unfold dqA
  omega
theorem sby_cut {s : ByteArray} {i n : Nat} (h : i + n ≤ s.size) : sby (s.extract i (i + n)) = ((sby s).drop i).take n := by
  unfold sby
  rw [ByteArray.data_extract, Array.toList_extract]
  show List.map _ ((s.data.toList.drop i).take (i + n - i)) = _
  rw [show i + n - i = n by omega, List.map_take, List.map_drop]
end Go.V
set_option maxHeartbeats 8000000
set_option maxRecDepth 100000
set_option synthInstance.maxSize 100000
set_option synthInstance.maxHeartbeats 2000000
namespace Go.V
open Go.RowKit Go.Proofs
theorem ZbJ (H : Heap) (k : Nat) (s some' : ByteArray) (i : Nat) (hk : H[k]? = some (rdO s i)) (hi : s.size ≤ 20000) : HC C ZaB H [.ptr k 0, .str some'] (fun x H' => x = .ret (.bool (isAt s i some')) ∧ H' = H.set k (rdO s ((i + bN (isAt s i some') : Nat) : Int))) :=
  (Zl7 H k s some' i hk hi).mono fun x H' h => by
    refine ⟨h.1, ?_⟩
    rw [h.2]
    cases isAt s i some'
    · exact (set_same hk).symm
    rfl
theorem set_get {H : Heap} {k : Nat} {s : ByteArray} {i j : Int} (hk : H[k]? = some (rdO s i)) : (H.set k (rdO s j))[k]? = some (rdO s j) := List.getElem?_set_self (List.getElem?_eq_some_iff.1 hk).1
theorem Zl9 (H : Heap) (k : Nat) (s : ByteArray) (i : Nat) (hk : H[k]? = some (rdO s i)) (hi : s.size ≤ 20000) : HC C Zc1 H [.ptr k 0] (fun x H' => x = .ret (.int .i64 ((lenA s i : Nat) : Int)) ∧ H' = H.set k (rdO s ((i + lenA s i : Nat) : Int))) := by
  refine HC.run Zbk ZcM rfl ZcN (rs := [.tmp 2]) (by rw [ZcO]) (by simp only [List.length_cons, List.length_nil, Nat.reduceAdd, Nat.reduceSub, List.replicate_succ, List.replicate_zero, List.cons_append, List.nil_append]; exact rfl) ?_
  refine ARun.seq (ARun.region ?_); refine zza ?_; refine AOps.nil (ARun.seq (ARun.seq (ARun.region ?_)))
  refine y_op rfl (Zan rfl rfl rfl rfl rfl rfl rfl rfl rfl rfl rfl (by decide) (by decide) rfl) ?_
  refine zzN ?_; refine zzm ?_; refine AOps.nil (ARun.block ?_)
  refine ARun.loop ?_
  refine ARun.seq (ARun.region ?_); refine zzi ?_; refine AOps.nil (ARun.seq ?_)
  refine ARun.condT rfl ?_
  refine ARun.skip (ARun.seq (ARun.block (ARun.seq (ARun.region ?_))))
  refine y_op rfl (Zag rfl rfl rfl rfl (by decide) (by decide) (List.cons_ne_nil _ _) rfl) ?_
  refine zzl ?_; refine zza ?_; refine AOps.nil (ARun.seq (ARun.region ?_)); refine zzm ?_; refine zzm ?_
  refine Zau rfl rfl rfl rfl (ZbJ H k s sL1 i hk hi) ?_ (by rintro _ _ ⟨h, _⟩; cases h)
  rintro _ _ ⟨h, rfl⟩
  injection h with h
  subst h
  refine AOps.nil ?_
  refine ARun.cond rfl (fun a => ?_) (fun a => ?_)
  · skip
    rw [a]
    refine ARun.seq (ARun.seq (ARun.region ?_)); refine zzm ?_; refine zzm ?_
    refine Zau rfl rfl rfl rfl (ZbJ _ k s sL1 (i + bN true) (set_get hk) hi) ?_ (by rintro _ _ ⟨h, _⟩; cases h)
    rintro _ _ ⟨h, rfl⟩
    injection h with h
    subst h
    rw [List.set_set]
    refine AOps.nil ?_
    refine ARun.cond rfl (fun c => ?_) (fun c => ?_)
    · skip
      rw [show i + bN true = i + 1 from rfl] at c
      have hl : lenA s i = 2 := by unfold lenA; rw [a, c]; rfl
      rw [hl]
      refine ARun.seq (ARun.region ?_); refine zza ?_; refine AOps.nil ?_
      refine ARun.ret ?_
      exact ⟨_, _, _, .tmp rfl .nil, .cons (.same _) .nil, rfl, by rw [show i + bN true = i + 1 from rfl, c]; rfl⟩
    rw [show i + bN true = i + 1 from rfl] at c
    have hl : lenA s i = 1 := by unfold lenA; rw [a, c]; rfl
    rw [hl]
    refine ARun.skip (ARun.seq (ARun.region ?_)); refine zza ?_; refine AOps.nil ?_
    refine ARun.ret ?_
    exact ⟨_, _, _, .tmp rfl .nil, .cons (.same _) .nil, rfl, by rw [show i + bN true = i + 1 from rfl, c]; rfl⟩
  rw [a, show i + bN false = i from rfl, set_same hk]
  refine ARun.skip (ARun.inBlock (ARun.region ?_))
  refine y_op rfl (q_add rfl rfl (IntWalk.i64_in _ (by omega))) ?_
  refine zzm ?_; refine AOps.nil ?_
  refine ARun.inLoop ?_
  refine ARun.seq (ARun.region ?_); refine zzi ?_; refine AOps.nil (ARun.seq ?_)
  refine ARun.condT rfl ?_
  refine ARun.skip (ARun.seq (ARun.block (ARun.seq (ARun.region ?_))))
  refine y_op rfl (Zag rfl rfl rfl rfl (by decide) (by decide) (List.cons_ne_nil _ _) rfl) ?_
  refine zzl ?_; refine zza ?_; refine AOps.nil (ARun.seq (ARun.region ?_)); refine zzm ?_; refine zzm ?_
  refine Zau rfl rfl rfl rfl (ZbJ H k s sL2 i hk hi) ?_ (by rintro _ _ ⟨h, _⟩; cases h)
  rintro _ _ ⟨h, rfl⟩
  injection h with h
  subst h
  refine AOps.nil ?_
  refine ARun.cond rfl (fun d => ?_) (fun d => ?_)
  · skip
    rw [d]
    refine ARun.seq (ARun.seq (ARun.region ?_)); refine zzm ?_; refine zzm ?_
    refine Zau rfl rfl rfl rfl (ZbJ _ k s sL2 (i + bN true) (set_get hk) hi) ?_ (by rintro _ _ ⟨h, _⟩; cases h)
    rintro _ _ ⟨h, rfl⟩
    injection h with h
    subst h
    rw [List.set_set]
    refine AOps.nil ?_
    refine ARun.cond rfl (fun c => ?_) (fun c => ?_)
    · skip
      rw [show i + bN true = i + 1 from rfl] at c
      have hl : lenA s i = 2 := by unfold lenA; rw [a, d, c]; rfl
      rw [hl]
      refine ARun.seq (ARun.region ?_); refine zza ?_; refine AOps.nil ?_
      refine ARun.ret ?_
      exact ⟨_, _, _, .tmp rfl .nil, .cons (.same _) .nil, rfl, by rw [show i + bN true = i + 1 from rfl, c]; rfl⟩
    rw [show i + bN true = i + 1 from rfl] at c
    have hl : lenA s i = 1 := by unfold lenA; rw [a, d, c]; rfl
    rw [hl]
    refine ARun.skip (ARun.seq (ARun.region ?_)); refine zza ?_; refine AOps.nil ?_
    refine ARun.ret ?_
    exact ⟨_, _, _, .tmp rfl .nil, .cons (.same _) .nil, rfl, by rw [show i + bN true = i + 1 from rfl, c]; rfl⟩
  rw [d, show i + bN false = i from rfl, set_same hk]
  have hl : lenA s i = 0 := by unfold lenA; rw [a, d]; rfl
  rw [hl]
  refine ARun.skip (ARun.inBlock (ARun.region ?_))
  refine y_op rfl (q_add rfl rfl (IntWalk.i64_in _ (by omega))) ?_
  refine zzm ?_; refine AOps.nil ?_
  refine ARun.inLoop ?_
  refine ARun.seq (ARun.region ?_); refine zzi ?_; refine AOps.nil (ARun.seq ?_)
  refine ARun.condF rfl ?_
  refine ARun.exit rfl ?_
  refine ARun.seq (ARun.region ?_); refine zza ?_; refine AOps.nil ?_
  refine ARun.ret ?_
  exact ⟨_, _, _, .tmp rfl .nil, .cons (.same _) .nil, rfl, (set_same hk).symm⟩
abbrev cellC : Option AObj := some ⟨[.nilsl, .int .i64 0, .bool false, .int .i64 0], Zdv, 1, true, none⟩
abbrev cOut (r : Cn × Int × Int) : Out := .ret (.tup [cnD r.1, .int .i64 r.2.1, .int .i64 r.2.2])
noncomputable abbrev QC (r : Cn × Int × Int) : Post := QFin C [.cell 2 Zdv, .cell 3 Zah, .cell 4 t_int] fun o _ => o.pure = true ∧ o = cOut r
theorem fz_cn {H : Heap} : Fz H (.agg [.nilsl, .int .i64 0, .bool false, .int .i64 0]) (cnD (0, 0, false, 0)) [] := by
  have h : cnD (0, 0, false, 0) = .agg [.sl 0 [], .int .i64 0, .bool false, .int .i64 0] := by show D.agg [sln .u32 (lim 0), _, _, _] = _; rw [lim_zero]; rfl
  rw [h]
  exact .agg (.cons .nil (.cons (.same _) (.cons (.same _) (.cons (.same _) .nil))))
theorem panCF {r : Cn × Int × Int} {e : Int} {env : List D} {tl : Heap} (h4 : env[2]? = some (.ptr 0 0)) (h5 : env[3]? = some (.ptr 1 0)) (h6 : env[4]? = some (.ptr 2 0)) (hr : r = ((0, 0, false, 0), e, 0)) : QC r (.pan (failW e)) env (cellC :: errO 0 :: intO 0 :: tl) [.fn Zbq [.ptr 1 0, .ptr 2 0]] := by
  refine DC.mono (dct_fail _ 1 2 0 0 e rfl rfl (by decide)) ?_
  rintro _ _ ⟨rfl, rfl⟩
  exact ⟨_, _, _, ResR.cellA h4 rfl rfl rfl rfl rfl (ResR.cell1 h5 rfl rfl rfl rfl (ResR.cell1 h6 rfl rfl rfl rfl .nil)), .cons fz_cn (.cons (.same _) (.cons (.same _) .nil)), rfl, by rw [hr]; rfl⟩
theorem panCW {r : Cn × Int × Int} {n : Int} {env : List D} {tl : Heap} (h4 : env[2]? = some (.ptr 0 0)) (h5 : env[3]? = some (.ptr 1 0)) (h6 : env[4]? = some (.ptr 2 0)) (hr : r = ((0, 0, false, 0), 6, n)) {H : Heap} (hH : H = cellC :: errO 0 :: intO 0 :: tl) : QC r (.pan (wrongW n)) env H [.fn Zbq [.ptr 1 0, .ptr 2 0]] := by
  subst hH
  refine DC.mono (dct_wrong _ 1 2 0 0 n rfl rfl (by decide)) ?_
  rintro _ _ ⟨rfl, rfl⟩
  exact ⟨_, _, _, ResR.cellA h4 rfl rfl rfl rfl rfl (ResR.cell1 h5 rfl rfl rfl rfl (ResR.cell1 h6 rfl rfl rfl rfl .nil)), .cons fz_cn (.cons (.same _) (.cons (.same _) .nil)), rfl, by rw [hr]; rfl⟩
end Go.V
