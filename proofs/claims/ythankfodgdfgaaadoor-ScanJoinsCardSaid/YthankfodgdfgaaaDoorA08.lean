/- A part of the proof: abstract values, rules for the steps of the program's form, and contracts of its functions, each proved; no condition. -/
import Derived.Test.YthankfodgdfgaaaDoorA07
import Derived.Shelf.Strconv.Itoa3
set_option linter.unusedVariables false
set_option linter.unusedSimpArgs false
set_option linter.unnecessarySimpa false
set_option maxHeartbeats 8000000
set_option maxRecDepth 100000
set_option synthInstance.maxSize 100000
set_option synthInstance.maxHeartbeats 2000000
namespace Go.V
open Go.RowKit Go.Proofs
def sr (S : Nat → Bool) (lo k : Nat) : Nat → Bool := fun x => S x || (decide (lo ≤ x) && decide (x < k))
theorem sr_zero (S : Nat → Bool) (lo : Nat) : sr S lo lo = S := by
  funext x; unfold sr
  rw [show (decide (lo ≤ x) && decide (x < lo)) = false by rw [← Bool.decide_and]; exact decide_eq_false (by omega), Bool.or_false]
theorem sr_succ (S : Nat → Bool) {lo k : Nat} (h : lo ≤ k) : swith (sr S lo k) k = sr S lo (k + 1) := by
  funext x; unfold sr swith
  rw [Bool.or_assoc]
  congr 1
  rw [← Bool.decide_and, ← Bool.decide_and, ← Bool.decide_or]
  exact decide_eq_decide.2 (by omega)
def sempty : Nat → Bool := fun _ => false
theorem swL_empty : swL sempty = [.int .u64 0, .int .u64 0, .int .u64 0, .int .u64 0] := by
  have e : ∀ i, sw sempty i = 0 := fun i => (sw_ext (x := 0) (by decide) fun j _ => by rw [Nat.zero_testBit]; rfl).symm
  unfold swL
  rw [e, e, e, e]; rfl
def rdI : (Nat → Bool) → List Nat → Option (Nat → Bool)
  | S, [] => some S
  | S, a :: c :: b :: r => if c = 45 then (if b < a then none else rdI (sr S a (b + 1)) r) else rdI (sr S a (a + 1)) (c :: b :: r)
  | S, [a, b] => rdI (sr S a (a + 1)) [b]
  | S, [a] => rdI (sr S a (a + 1)) []
theorem rd_end {s : ByteArray} {i : Nat} (S : Nat → Bool) (h : s.size ≤ i) : rdI S ((sby s).drop i) = some S := by rw [drop_end h, rdI]
theorem rd_rng {s : ByteArray} {i : Nat} (S : Nat → Bool) (h : i + 2 < s.size) (hc : (sby s).getD (i + 1) 0 = 45) : rdI S ((sby s).drop i) = if (sby s).getD (i + 2) 0 < (sby s).getD i 0 then none else rdI (sr S ((sby s).getD i 0) ((sby s).getD (i + 2) 0 + 1)) ((sby s).drop (i + 3)) := by
  rw [drop_at (p := i) (by omega), drop_at (p := i + 1) (by omega), drop_at (p := i + 2) h, rdI, if_pos hc]
theorem rd_one {s : ByteArray} {i : Nat} (S : Nat → Bool) (h : i < s.size) (hc : ¬ (i + 2 < s.size ∧ (sby s).getD (i + 1) 0 = 45)) : rdI S ((sby s).drop i) = rdI (sr S ((sby s).getD i 0) ((sby s).getD i 0 + 1)) ((sby s).drop (i + 1)) := by
  rcases Nat.lt_or_ge (i + 2) s.size with g | g
  · rw [drop_at (p := i) (by omega), drop_at (p := i + 1) (by omega), drop_at (p := i + 2) g, rdI, if_neg (fun h => hc ⟨g, h⟩)]
  rcases Nat.lt_or_ge (i + 1) s.size with g2 | g2
  · rw [drop_at (p := i) (by omega), drop_at (p := i + 1) g2, drop_end (p := i + 1 + 1) (by omega), rdI]
  rw [drop_at (p := i) h, drop_end (p := i + 1) (by omega), rdI, rdI, rdI]
def rdBad (l : List Nat) : Bool := (decide (l = []) || decide (0 ∈ l)) || decide (93 ∈ l.drop 1)
noncomputable def readR (neg : Bool) (l : List Nat) : (Nat → Bool) × Int := bif rdBad l then (sempty, 6) else match rdI sempty l with
  | none => (sempty, 6)
  | some S => (bif neg then sother S else S, 0)
abbrev sCaret : ByteArray := ⟨#[94]⟩
noncomputable def readS (s : ByteArray) : (Nat → Bool) × Int := if 2000 < s.size then (sempty, 2) else readR (isPre s sCaret) (sby (cutR s sCaret))
theorem readR_bad {neg : Bool} {l : List Nat} (h : rdBad l = true) : readR neg l = (sempty, 6) := by unfold readR; rw [h]; rfl
theorem readR_none {neg : Bool} {l : List Nat} (h : rdBad l = false) (h2 : rdI sempty l = none) : readR neg l = (sempty, 6) := by unfold readR; rw [h, h2]; rfl
theorem readR_some {neg : Bool} {l : List Nat} {S : Nat → Bool} (h : rdBad l = false) (h2 : rdI sempty l = some S) : readR neg l = (bif neg then sother S else S, 0) := by unfold readR; rw [h, h2]; rfl
theorem size_of_ne {s : ByteArray} {b : Bool} (h : (decide (sby s = []) || b) = false) : 1 ≤ s.size := by
  rw [Bool.or_eq_false_iff] at h
  have h1 := of_decide_eq_false h.1
  rcases Nat.eq_zero_or_pos s.size with g | g
  · exfalso; apply h1; apply List.eq_nil_of_length_eq_zero; rw [sby_len]; exact g
  exact g
theorem cut_size (s : ByteArray) : (cutR s sCaret).size ≤ s.size := by
  unfold cutR
  cases isPre s sCaret
  · exact Nat.le_refl _
  show (s.extract 1 s.size).size ≤ _
  rw [ByteArray.size_extract]; omega
theorem Zd0 (s : ByteArray) : PC C ZbJ [.str s] (fun o => o = .ret (.tup [setD (readS s).1, .int .i64 (readS s).2])) := by
  unfold readS
  refine PC.rn Zby Zc3 Zc4 (rs := [.cell 2 28, .tmp 3]) (by rw [Zc5]) ?_
  refine ARun.seq (ARun.region ?_)
  refine y_new rfl (Zbk rfl rfl rfl rfl) ?_
  refine zza ?_; refine AOps.nil (ARun.seq (ARun.seq (ARun.region ?_))); refine zzm ?_
  refine y_op rfl (Zae rfl rfl) ?_
  refine zzi ?_; refine AOps.nil ?_
  refine ARun.ite rfl (fun g => ?_) (fun g => ?_)
  · skip
    rw [if_pos (show 2000 < s.size by omega)]
    show ARun C (QFin C _ (fun o _ => o.pure = true ∧ o = .ret (.tup [.agg (swL sempty), .int .i64 2]))) _ _ _ _
    rw [swL_empty]
    refine ARun.seq (ARun.region ?_)
    refine y_op rfl (Zbh rfl rfl rfl) ?_
    refine y_new rfl (Zaw rfl rfl rfl rfl rfl rfl rfl rfl (Nat.le_of_ble_eq_true rfl) rfl) ?_
    refine zza ?_; refine AOps.nil ?_
    refine ARun.ret ?_
    refine ⟨_, _, _, ResR.cellA rfl rfl rfl rfl rfl rfl (.tmp rfl .nil), .cons (.same _) (.cons (.same _) .nil), rfl, ?_⟩
    rfl
  rw [if_neg (show ¬ 2000 < s.size by omega)]
  have hcs := cut_size s
  have hs2 : s.size ≤ 2000 := by omega
  refine ARun.skip (ARun.seq (ARun.region ?_)); refine zzm ?_
  refine zzc rfl rfl (Zfg s sCaret (by omega) (by decide)) ?_
  refine zzm ?_; refine zze ?_; refine zze ?_; refine zza ?_; refine zza ?_
  generalize cutR s sCaret = s1 at *
  generalize isPre s sCaret = neg at *
  have hl1 := sby_len s1
  refine AOps.nil (ARun.seq (ARun.seq (ARun.region ?_))); refine zzm ?_
  refine y_op rfl (OpQ.cast (Ze0 rfl rfl) (congrArg D.bool (show _ = decide (sby s1 = []) by rw [str_eq]; rfl))) ?_
  refine zzm ?_
  apply AOps.orJ 20 (fun sj1 => [(20, .any), (21, .any), (22, .any), (23, .any), (24, .bool sj1)]) rfl
  · intro hj1 run1
    try replace hj1 := of_decide_eq_true hj1
    refine zzk ?_; refine zzk ?_; refine zzk ?_; refine zzp ?_
    exact AOps.ag run1
  · intro hj1 run1
    try replace hj1 := of_decide_eq_false hj1
    refine zzm ?_
    refine zzc rfl rfl (Zcu s1 0) ?_
    refine y_op rfl (OpQ.cast (q_int rfl rfl rfl) (congrArg D.bool (show _ = decide (0 ∈ sby s1) from ix_ge (by decide)))) ?_
    refine zzp ?_
    exact AOps.ag run1
  refine zzm ?_
  apply AOps.orJ 25 (fun sj2 => [(25, .any), (26, .any), (27, .any), (28, .any), (29, .any), (30, .bool sj2)]) rfl
  · intro hj2 run2
    try replace hj2 := of_decide_eq_true hj2
    try have hz1 := size_of_ne hj2
    refine zzk ?_; refine zzk ?_; refine zzk ?_; refine zzk ?_; refine zzp ?_
    exact AOps.ag run2
  · intro hj2 run2
    try replace hj2 := of_decide_eq_false hj2
    try have hz1 := size_of_ne hj2
    refine zzm ?_
    refine y_op rfl (Zbg (lo := 1) (hi := s1.size) rfl rfl (bnd_nat (n := 1) rfl rfl) rfl (by assumption) (Nat.le_refl _)) ?_
    refine zzc rfl rfl (Zcu (s1.extract 1 s1.size) 93) ?_
    refine y_op rfl (OpQ.cast (q_int rfl rfl rfl) (congrArg D.bool (show _ = decide (93 ∈ (sby s1).drop 1) by rw [← sby_suf s1 (by assumption)]; exact ix_ge (by decide)))) ?_
    refine zzp ?_
    exact AOps.ag run2
  refine AOps.nil ?_
  refine ARun.cond rfl (fun hbad => ?_) (fun hbad => ?_)
  · skip
    rw [readR_bad hbad]
    show ARun C (QFin C _ (fun o _ => o.pure = true ∧ o = .ret (.tup [.agg (swL sempty), .int .i64 6]))) _ _ _ _
    rw [swL_empty]
    refine ARun.seq (ARun.region ?_)
    refine y_op rfl (Zbh rfl rfl rfl) ?_
    refine y_new rfl (Zaw rfl rfl rfl rfl rfl rfl rfl rfl (Nat.le_of_ble_eq_true rfl) rfl) ?_
    refine zza ?_; refine AOps.nil ?_
    refine ARun.ret ?_
    refine ⟨_, _, _, ResR.cellA rfl rfl rfl rfl rfl rfl (.tmp rfl .nil), .cons (.same _) (.cons (.same _) .nil), rfl, ?_⟩
    rfl
  have hbad : rdBad (sby s1) = false := hbad
  refine ARun.skip (ARun.seq (ARun.seq (ARun.region ?_))); refine zza ?_; refine AOps.nil (ARun.block ?_)
  refine ARun.loopI (S := Nat × (Nat → Bool)) (fun σ : Nat × (Nat → Bool) => [(3, .any), (5, .int .i64 (σ.1 : Int)), (6, .any), (7, .any), (8, .any), (32, .any), (33, .any), (34, .any), (35, .any), (36, .any), (37, .any), (38, .any), (39, .any), (40, .any), (41, .any), (42, .any), (43, .any), (44, .any), (45, .any), (46, .any), (47, .any), (48, .any), (49, .any), (50, .any), (51, .any), (52, .any), (53, .any), (54, .any), (55, .any), (56, .any), (57, .any), (58, .any), (59, .any), (60, .any), (61, .any), (62, .any), (63, .any), (64, .any), (65, .any), (66, .any), (67, .any), (68, .any), (69, .any), (70, .any), (71, .any), (72, .any), (73, .any), (74, .any), (75, .any), (76, .any), (77, .any)]) (fun σ : Nat × (Nat → Bool) => [some ⟨swL σ.2, Zai, 1, true, none⟩]) (fun σ : Nat × (Nat → Bool) => σ.1 ≤ s1.size ∧ rdI sempty (sby s1) = rdI σ.2 ((sby s1).drop σ.1)) (fun σ : Nat × (Nat → Bool) => s1.size - σ.1) ((0, sempty)) ?_ ?_ ?_ ?_
  · exact ⟨Nat.zero_le _, rfl⟩
  · (repeat' first | exact envLe_nil | apply envLe_any | apply envLe_same)
  · (rw [swL_empty])
  rintro ⟨i, S⟩ hinv ih
  dsimp only at hinv ih ⊢
  obtain ⟨i1, i2⟩ := hinv
  refine ARun.seq (ARun.seq (ARun.region ?_)); refine zzm ?_; refine zzm ?_
  refine y_op rfl (Zae rfl rfl) ?_
  refine zzi ?_; refine AOps.nil ?_
  refine ARun.ite rfl (fun g1 => ?_) (fun g1 => ?_)
  · skip
    have g1 : i < s1.size := by omega
    have hb := sby_lt (s := s1) i
    refine ARun.skip (ARun.seq (ARun.block (ARun.seq ?_)))
    refine ARun.drawnP 7 (fun _ => False) mixC rfl rfl (by kernel_rfl) (fun _ _ h => h.elim) ?_
    refine .op rfl (q_move rfl) ?_
    refine .op rfl (q_move rfl) ?_
    refine .op rfl (Zaq rfl rfl rfl (by omega) (by omega) (sby_get _)) ?_
    refine .op rfl (q_move rfl) ?_
    refine .op rfl (q_move rfl) ?_
    refine .op rfl (Zaq rfl rfl rfl (by omega) (by omega) (sby_get _)) ?_
    refine .op rfl (ZeZ rfl) ?_
    refine .nil (fun hG => ?_)
    refine zza ?_; refine AOps.nil (ARun.seq (ARun.seq (ARun.region ?_))); refine zzm ?_
    refine y_op rfl (q_add rfl rfl (nadd1_i64 (by omega))) ?_
    refine zzm ?_
    refine y_op rfl (Zae rfl rfl) ?_
    refine y_op rfl (OpQ.cast (d' := .bool (decide (i + 2 < s1.size))) (q_int rfl rfl rfl) (congrArg D.bool (decide_eq_decide.2 (by omega)))) ?_
    refine zzm ?_
    apply AOps.andJ 49 (fun sj3 => [(49, .any), (50, .any), (51, .any), (52, .any), (53, .any), (54, .any), (55, .bool sj3)]) rfl
    · intro hj3 run3
      try replace hj3 := of_decide_eq_true hj3
      refine zzm ?_; refine zzm ?_
      refine y_op rfl (q_add rfl rfl (nadd1_i64 (by omega))) ?_
      refine y_op rfl (Zaq rfl rfl rfl (by omega) (by omega) (sby_get (i := i + 1) _)) ?_
      refine y_op rfl (OpQ.cast (q_int rfl rfl rfl) (congrArg D.bool (int_dec (m := 45) rfl))) ?_
      refine zzp ?_
      exact AOps.ag run3
    · intro hj3 run3
      try replace hj3 := of_decide_eq_false hj3
      refine zzk ?_; refine zzk ?_; refine zzk ?_; refine zzk ?_; refine zzk ?_; refine zzp ?_
      exact AOps.ag run3
    refine AOps.nil ?_
    refine ARun.join (S := Nat × Nat) (fun σ : Nat × Nat => [(5, .int .i64 ((i + σ.2 : Nat) : Int)), (7, .int .u8 (σ.1 : Int)), (56, .any), (57, .any), (58, .any), (59, .any), (60, .any), (61, .any)]) (fun σ : Nat × Nat => σ.1 < 256 ∧ (σ.2 = 2 ∧ i + 2 < s1.size ∧ (sby s1).getD (i + 1) 0 = 45 ∧ σ.1 = (sby s1).getD (i + 2) 0 ∨ σ.2 = 0 ∧ ¬ (i + 2 < s1.size ∧ (sby s1).getD (i + 1) 0 = 45) ∧ σ.1 = (sby s1).getD i 0)) (fun run => ?_) ?_
    · skip
      refine ARun.cond rfl (fun q => ?_) (fun q => ?_)
      · skip
        rw [Bool.and_eq_true, decide_eq_true_eq, decide_eq_true_eq] at q
        refine ARun.seq (ARun.region ?_); refine zzm ?_; refine zzm ?_
        refine y_op rfl (q_add rfl rfl (nadd1_i64 (by omega))) ?_
        refine y_op rfl (Zaq rfl rfl rfl (by omega) (by omega) (sby_get (i := i + 2) _)) ?_
        refine zza ?_; refine AOps.nil (ARun.region ?_); refine zzm ?_
        refine y_op rfl (q_add rfl rfl (nadd1_i64 (by omega))) ?_
        refine zza ?_; refine AOps.nil ?_
        exact ARun.ag (run (((sby s1).getD (i + 2) 0, 2)) (⟨sby_lt _, .inl ⟨rfl, q.1, q.2, rfl⟩⟩))
      have q : ¬ (i + 2 < s1.size ∧ (sby s1).getD (i + 1) 0 = 45) := by
        rintro ⟨h1, h2⟩
        rw [decide_eq_true h1, decide_eq_true h2] at q; cases q
      refine ARun.skip ?_
      exact ARun.ag (run (((sby s1).getD i 0, 0)) (⟨hb, .inr ⟨rfl, q, rfl⟩⟩))
    rintro ⟨hi, dd⟩ hj
    try dsimp only at hj ⊢
    obtain ⟨hhi, hcase⟩ := hj
    refine ARun.seq (ARun.seq (ARun.region ?_)); refine zzm ?_; refine zzm ?_; refine zzi ?_; refine AOps.nil ?_
    refine ARun.ite rfl (fun w => ?_) (fun w => ?_)
    · skip
      have w : hi < (sby s1).getD i 0 := by omega
      have hn : rdI sempty (sby s1) = none := by
        rcases hcase with ⟨_, h1, h2, h3⟩ | ⟨_, _, h3⟩
        · rw [i2, rd_rng S h1 h2, if_pos (by omega)]
        omega
      rw [readR_none hbad hn]
      show ARun C (QFin C _ (fun o _ => o.pure = true ∧ o = .ret (.tup [.agg (swL sempty), .int .i64 6]))) _ _ _ _
      rw [swL_empty]
      refine ARun.seq (ARun.region ?_)
      refine y_op rfl (Zbh rfl rfl rfl) ?_
      refine y_new rfl (Zaw rfl rfl rfl rfl rfl rfl rfl rfl (Nat.le_of_ble_eq_true rfl) rfl) ?_
      refine zza ?_; refine AOps.nil ?_
      refine ARun.ret ?_
      refine ⟨_, _, _, ResR.cellA rfl rfl rfl rfl rfl rfl (.tmp rfl .nil), .cons (.same _) (.cons (.same _) .nil), rfl, ?_⟩
      rfl
    have w : (sby s1).getD i 0 ≤ hi := by omega
    have hnext : rdI sempty (sby s1) = rdI (sr S ((sby s1).getD i 0) (hi + 1)) ((sby s1).drop (i + dd + 1)) ∧ i + dd + 1 ≤ s1.size := by
      rcases hcase with ⟨rfl, h1, h2, h3⟩ | ⟨rfl, h2, h3⟩
      · rw [i2, rd_rng S h1 h2, if_neg (by omega), h3]; exact ⟨rfl, by omega⟩
      rw [i2, rd_one S g1 h2, h3]; exact ⟨rfl, g1⟩
    generalize (sby s1).getD i 0 = lo at *
    refine ARun.skip (ARun.seq (ARun.region ?_)); refine zzm ?_
    refine y_op rfl (q_conv rfl rfl rfl (show _ = (lo : Int) by rw [IntWalk.i64_in _ (by omega)])) ?_
    refine zza ?_; refine AOps.nil (ARun.block ?_)
    refine ARun.loopI (S := Nat) (fun k : Nat => [(8, .int .i64 (k : Int)), (68, .any), (69, .any), (70, .any), (71, .any), (72, .any), (73, .any), (74, .any), (75, .any), (76, .any), (77, .any)]) (fun k : Nat => [some ⟨swL (sr S lo k), Zai, 1, true, none⟩]) (fun k : Nat => lo ≤ k ∧ k ≤ hi + 1) (fun k : Nat => hi + 1 - k) (lo) ?_ ?_ ?_ ?_
    · exact ⟨Nat.le_refl _, by omega⟩
    · (repeat' first | exact envLe_nil | apply envLe_any | apply envLe_same)
    · rw [sr_zero]
    rintro k hv ih2
    obtain ⟨v1, v2⟩ := hv
    refine ARun.seq (ARun.seq (ARun.region ?_)); refine zzm ?_; refine zzm ?_
    refine y_op rfl (q_conv rfl rfl rfl (show _ = (hi : Int) by rw [IntWalk.i64_in _ (by omega)])) ?_
    refine zzi ?_; refine AOps.nil ?_
    refine ARun.ite rfl (fun y => ?_) (fun y => ?_)
    · skip
      have y : k ≤ hi := by omega
      have hsucc := sr_succ S v1
      refine ARun.skip (ARun.seq (ARun.block (ARun.region ?_)))
      refine y_op rfl (Zaf rfl rfl rfl rfl rfl rfl) ?_
      refine zzm ?_
      refine y_op rfl (q_conv rfl rfl rfl (size_in (by omega))) ?_
      refine zzc rfl rfl (ZdA (sr S lo k) k (by omega)) ?_
      refine y_new rfl (Zaw rfl rfl rfl rfl rfl rfl rfl rfl (Nat.le_of_ble_eq_true rfl) rfl) ?_
      refine AOps.nil (ARun.inBlock (ARun.region ?_)); refine zzm ?_
      refine y_op rfl (q_add rfl rfl (nadd1_i64 (by omega))) ?_
      refine zza ?_; refine AOps.nil ?_
      refine ARun.again (ih2 (k + 1) ?_ ?_) ?_ ?_
      · exact ⟨by omega, by omega⟩
      · omega
      · (repeat' first | exact envLe_nil | apply envLe_any | apply envLe_same)
      (rw [← hsucc]; rfl)
    obtain rfl : k = hi + 1 := by omega
    refine ARun.exit rfl ?_
    refine ARun.inBlock (ARun.region ?_); refine zzm ?_
    refine y_op rfl (q_add rfl rfl (nadd1_i64 (by omega))) ?_
    refine zza ?_; refine AOps.nil ?_
    refine ARun.again (ih ((i + dd + 1, sr S lo (hi + 1))) ?_ ?_) ?_ ?_
    · exact ⟨hnext.2, hnext.1⟩
    · (dsimp only; omega)
    · (repeat' first | exact envLe_nil | apply envLe_any | apply envLe_same)
    rfl
  have g1 : i = s1.size := by omega
  have hs : rdI sempty (sby s1) = some S := by rw [i2]; exact rd_end S (by omega)
  rw [readR_some hbad hs]
  refine ARun.exit rfl ?_
  refine ARun.seq (ARun.seq (ARun.region ?_)); refine zzm ?_; refine AOps.nil ?_
  refine ARun.cond rfl (fun n1 => ?_) (fun n1 => ?_)
  · skip
    obtain rfl : neg = true := n1
    refine ARun.seq (ARun.region ?_)
    refine y_op rfl (Zaf rfl rfl rfl rfl rfl rfl) ?_
    refine zzc rfl rfl (ZeH S) ?_
    refine y_new rfl (Zaw rfl rfl rfl rfl rfl rfl rfl rfl (Nat.le_of_ble_eq_true rfl) rfl) ?_
    refine zza ?_; refine AOps.nil ?_
    refine ARun.ret ?_
    refine ⟨_, _, _, ResR.cellA rfl rfl rfl rfl rfl rfl (.tmp rfl .nil), .cons (.same _) (.cons (.same _) .nil), rfl, ?_⟩
    rfl
  obtain rfl : neg = false := n1
  refine ARun.skip (ARun.seq (ARun.region ?_))
  refine y_op rfl (Zaf rfl rfl rfl rfl rfl rfl) ?_
  refine y_new rfl (Zaw rfl rfl rfl rfl rfl rfl rfl rfl (Nat.le_of_ble_eq_true rfl) rfl) ?_
  refine zza ?_; refine AOps.nil ?_
  refine ARun.ret ?_
  refine ⟨_, _, _, ResR.cellA rfl rfl rfl rfl rfl rfl (.tmp rfl .nil), .cons (.same _) (.cons (.same _) .nil), rfl, ?_⟩
  rfl
end Go.V
set_option maxHeartbeats 8000000
set_option maxRecDepth 100000
set_option synthInstance.maxSize 100000
set_option synthInstance.maxHeartbeats 2000000
namespace Go.V
open Go.RowKit Go.Proofs
theorem isCaret (s : ByteArray) : isPre s sCaret = (decide (0 < s.size) && decide ((sby s).getD 0 0 = 94)) := by
  unfold isPre
  rw [← Bool.decide_and]
  apply decide_eq_decide.2
  have hl := sby_len s
  show List.take 1 (sby s) = [94] ↔ _
  cases h : sby s with
  | nil => rw [h] at hl; constructor
           · intro h; cases h
           rintro ⟨h, _⟩; rw [← hl] at h; cases h
  | cons c r =>
    rw [h] at hl
    constructor
    · intro h2; injection h2 with h2 _; exact ⟨by rw [← hl]; simp, h2⟩
    rintro ⟨_, h2⟩
    have h2 : c = 94 := h2
    rw [h2]; rfl
end Go.V
set_option maxHeartbeats 8000000
set_option maxRecDepth 100000
set_option synthInstance.maxSize 100000
set_option synthInstance.maxHeartbeats 2000000
namespace Go.V
open Go.RowKit Go.Proofs
def rin (S : Nat → Bool) (c : Nat) : Bool := S c && !(decide (c = 93) || (decide (c = 94) || decide (c = 45)))
def rend (S : Nat → Bool) (d : Nat) : Nat := if d + 1 < 256 ∧ rin S (d + 1) = true then rend S (d + 1) else d
termination_by 256 - d
theorem rend_ge (S : Nat → Bool) (d : Nat) : d ≤ rend S d := by
  rw [rend]; split
  · have := rend_ge S (d + 1); omega
  exact Nat.le_refl _
termination_by 256 - d
theorem rend_lt (S : Nat → Bool) (d : Nat) (h : d < 256) : rend S d < 256 := by
  rw [rend]; split
  · rename_i g; exact rend_lt S (d + 1) g.1
  exact h
termination_by 256 - d
def wr (c d : Nat) : List Nat := if c + 2 ≤ d then [c, 45, d] else (List.range (d + 1 - c)).map (c + ·)
theorem wr_len (c d : Nat) : (wr c d).length ≤ d + 1 - c := by
  unfold wr; split
  · simp only [List.length_cons, List.length_nil]; omega
  simp
theorem wr_lt (c d : Nat) (hc : c < 256) (hd : d < 256) : ∀ x ∈ wr c d, x < 256 := by
  unfold wr; split
  · intro x hx; simp only [List.mem_cons, List.not_mem_nil, or_false] at hx; omega
  intro x hx; simp only [List.mem_map, List.mem_range] at hx; omega
def rtx (S : Nat → Bool) (c : Nat) : List Nat :=
  if h : c < 256 then bif rin S c then wr c (rend S c) ++ rtx S (rend S c + 1) else rtx S (c + 1) else []
termination_by 256 - c
decreasing_by
  · have := rend_ge S c; omega
  omega
theorem rtx_end (S : Nat → Bool) : rtx S 256 = [] := by rw [rtx]; rfl
theorem rtx_no {S : Nat → Bool} {c : Nat} (h : c < 256) (g : rin S c = false) : rtx S c = rtx S (c + 1) := by rw [rtx, dif_pos h, g]; rfl
theorem rtx_yes {S : Nat → Bool} {c : Nat} (h : c < 256) (g : rin S c = true) : rtx S c = wr c (rend S c) ++ rtx S (rend S c + 1) := by rw [rtx, dif_pos h, g]; rfl
theorem rend_yes {S : Nat → Bool} {d : Nat} (h : d + 1 < 256) (g : rin S (d + 1) = true) : rend S d = rend S (d + 1) := by rw [rend, if_pos ⟨h, g⟩]
theorem rend_no {S : Nat → Bool} {d : Nat} (h : ¬ (d + 1 < 256 ∧ rin S (d + 1) = true)) : rend S d = d := by rw [rend, if_neg h]
theorem rtx_lt (S : Nat → Bool) (c : Nat) : ∀ x ∈ rtx S c, x < 256 := by
  rw [rtx]; split
  · rename_i h
    cases rin S c
    · exact rtx_lt S (c + 1)
    intro x hx
    have hx : x ∈ wr c (rend S c) ++ rtx S (rend S c + 1) := hx
    rw [List.mem_append] at hx
    have := rend_ge S c
    exact hx.elim (wr_lt c _ h (rend_lt S c h) x) (rtx_lt S (rend S c + 1) x)
  intro x hx; cases hx
termination_by 256 - c
theorem rtx_len (S : Nat → Bool) (c : Nat) : (rtx S c).length ≤ 256 - c := by
  rw [rtx]; split
  · rename_i h
    cases rin S c
    · have := rtx_len S (c + 1); show (rtx S (c + 1)).length ≤ _; omega
    show (wr c (rend S c) ++ rtx S (rend S c + 1)).length ≤ _
    have := rend_ge S c
    have := rend_lt S c h
    have := wr_len c (rend S c)
    have := rtx_len S (rend S c + 1)
    rw [List.length_append]; omega
  exact Nat.zero_le _
termination_by 256 - c
end Go.V
set_option maxHeartbeats 8000000
set_option maxRecDepth 100000
set_option synthInstance.maxSize 100000
set_option synthInstance.maxHeartbeats 2000000
namespace Go.V
open Go.RowKit Go.Proofs
def pre1 (b : Bool) (c : Nat) : List Nat := bif b then [c] else []
def setBody (T : Nat → Bool) : List Nat := pre1 (T 93) 93 ++ (rtx T 1 ++ (pre1 (T 94) 94 ++ pre1 (T 45) 45))
def setNeg (n : Nat) (b : Bool) : Bool := (decide (n = 0) || (decide (127 < n) && decide (n < 255))) || (decide (n = 1) && b)
def setTx (S : Nat → Bool) : List Nat × Int :=
  bif S 0 then ([], 1) else bif setNeg (ssize S 256) (S 94) then (94 :: setBody (sother S), 0) else bif (decide (ssize S 256 = 2) && S 94) && S 45 then ([45, 94], 0) else (setBody S, 0)
end Go.V
set_option maxHeartbeats 8000000
set_option maxRecDepth 100000
set_option synthInstance.maxSize 100000
set_option synthInstance.maxHeartbeats 2000000
namespace Go.V
open Go.RowKit Go.Proofs
def slong (row len : Int) : Bool :=
  if len = 0 then decide (row > 0) else if row = 1 ∨ row = 5 then decide (len ≥ 1) && decide (len ≤ 7) else if row = 2 then decide (len = 3) || (decide (len ≥ 8) && decide (len ≤ 11)) else if row = 3 then decide (len = 3) else false
def slit (s : ByteArray) : Bool := decide (0 < s.size) && (sby s).all splain
theorem slit_no {s : ByteArray} {i : Nat} (hi : i < s.size) (h : splain ((sby s).getD i 0) = false) : slit s = false := by
  unfold slit
  rw [Bool.and_eq_false_iff]; right
  rw [Bool.eq_false_iff]
  intro h2
  rw [List.all_eq_true] at h2
  have hl := sby_len s
  have hm : (sby s).getD i 0 ∈ sby s := by rw [List.getD_eq_getElem?_getD, List.getElem?_eq_getElem (by omega)]; exact List.getElem_mem _
  rw [h2 _ hm] at h; cases h
theorem slit_yes {s : ByteArray} (h : ∀ i, i < s.size → splain ((sby s).getD i 0) = true) : slit s = decide (0 < s.size) := by
  unfold slit
  have : (sby s).all splain = true := List.all_eq_true.2 fun x hx => by
    obtain ⟨j, hj, rfl⟩ := List.getElem_of_mem hx
    have hl := sby_len s
    have := h j (by omega)
    rw [List.getD_eq_getElem?_getD, List.getElem?_eq_getElem hj] at this
    exact this
  rw [this, Bool.and_true]
end Go.V
set_option maxHeartbeats 8000000
set_option maxRecDepth 100000
set_option synthInstance.maxSize 100000
set_option synthInstance.maxHeartbeats 2000000
namespace Go.V
open Go.RowKit Go.Proofs
def rowsN : List (List Nat) := [[100, 105, 117, 111, 120, 88, 98], [101, 69, 102, 70, 103, 71, 97, 65], [99, 115, 91], [112], [110]]
def classF : List (List Nat) → Nat → Nat → Nat
  | [], _, _ => 0
  | r :: rs, c, n => if c ∈ r then n + 1 else classF rs c (n + 1)
def sclass (c : Nat) : Nat := classF rowsN c 0
end Go.V
set_option maxHeartbeats 8000000
set_option maxRecDepth 100000
set_option synthInstance.maxSize 100000
set_option synthInstance.maxHeartbeats 2000000
namespace Go.V
open Go.RowKit Go.Proofs
end Go.V
set_option maxHeartbeats 8000000
set_option maxRecDepth 100000
set_option synthInstance.maxSize 100000
set_option synthInstance.maxHeartbeats 2000000
namespace Go.V
open Go.RowKit Go.Proofs
def sdp (n c : Nat) : Bool := (decide (48 ≤ c) && decide (c ≤ 57)) && (decide (0 < n) || decide (48 < c))
def dnum (n : Nat) : List Nat := if 9 < n then dnum (n / 10) ++ [48 + n % 10] else [48 + n % 10]
termination_by n
decreasing_by omega
theorem dnum_big {n : Nat} (h : 9 < n) : dnum n = dnum (n / 10) ++ [48 + n % 10] := by rw [dnum, if_pos h]
theorem dnum_one {n : Nat} (h : ¬ 9 < n) : dnum n = [48 + n % 10] := by rw [dnum, if_neg h]
end Go.V
set_option maxHeartbeats 8000000
set_option maxRecDepth 100000
set_option synthInstance.maxSize 100000
set_option synthInstance.maxHeartbeats 2000000
namespace Go.V
open Go.RowKit Go.Proofs
structure Pc where
  lit : ByteArray
  arg : Int
  wid : Int
  len : Int
  conv : Nat
  set : Nat → Bool
abbrev Pc.cells (p : Pc) : List D := [.str p.lit, .int .i64 p.arg, .int .i64 p.wid, .int .i64 p.len, .int .u8 (p.conv : Int), .int .u64 ((sw p.set 0 : Nat) : Int), .int .u64 ((sw p.set 1 : Nat) : Int), .int .u64 ((sw p.set 2 : Nat) : Int), .int .u64 ((sw p.set 3 : Nat) : Int)]
def pcZ : Pc := ⟨ByteArray.empty, 0, 0, 0, 0, sempty⟩
abbrev pcs (l : List Pc) : List D := l.flatMap Pc.cells
abbrev slP (l : List Pc) : D := .sl l.length (pcs l)
theorem pcs_drop : ∀ (l : List Pc) (i : Nat), i < l.length → (pcs l).drop (i * 9) = (l.getD i pcZ).cells ++ pcs (l.drop (i + 1))
  | [], i, h => absurd h (Nat.not_lt_zero i)
  | p :: l, 0, _ => rfl
  | p :: l, i + 1, h => by
    have ih := pcs_drop l i (Nat.lt_of_succ_lt_succ h)
    show (p.cells ++ pcs l).drop _ = _
    rw [List.drop_append, List.drop_eq_nil_of_le (by show 9 ≤ _; omega), show (i + 1) * 9 - p.cells.length = i * 9 by show _ - 9 = _; omega, ih]; rfl
theorem pcs_ne {l : List Pc} {i : Nat} (h : i < l.length) : pcs l ≠ [] := by
  cases l with
  | nil => exact absurd h (Nat.not_lt_zero i)
  | cons p l => intro e; cases e
def sord : List Pc → Int → Bool
  | [], _ => true
  | p :: ps, n => if p.arg > 0 then (if p.arg = n + 1 then sord ps (n + 1) else false) else sord ps n
theorem drop_getD {α : Type} (l : List α) (i : Nat) (d : α) (h : i < l.length) : l.drop i = l.getD i d :: l.drop (i + 1) := by
  rw [List.getD_eq_getElem?_getD, List.getElem?_eq_getElem h, List.drop_eq_getElem_cons h]; rfl
def smost : List Pc → Int → Int
  | [], m => m
  | p :: ps, m => smost ps (max m p.arg)
def sused (l : List Pc) (n : Int) : Bool := l.any fun p => decide (p.arg = n)
def sall (l : List Pc) (m k : Nat) : Bool := if k ≤ m then sused l (k : Int) && sall l m (k + 1) else true
termination_by m + 1 - k
theorem sall_end {l : List Pc} {m k : Nat} (h : ¬ k ≤ m) : sall l m k = true := by rw [sall, if_neg h]
theorem sall_yes {l : List Pc} {m k : Nat} (h : k ≤ m) (g : sused l (k : Int) = true) : sall l m k = sall l m (k + 1) := by rw [sall, if_pos h, g, Bool.true_and]
def sgr (l : List Pc) : Int × Bool := (smost l 0, sall l (smost l 0).toNat 1)
end Go.V
set_option maxHeartbeats 8000000
set_option maxRecDepth 100000
set_option synthInstance.maxSize 100000
set_option synthInstance.maxHeartbeats 2000000
namespace Go.V
open Go.RowKit Go.Proofs
def spl (p : Pc) : Bool := (decide (p.conv = 32) || decide (p.conv = 0)) || decide (p.conv = 37)
abbrev pcA (p : Pc) : D := .agg p.cells
end Go.V
set_option maxHeartbeats 8000000
set_option maxRecDepth 100000
set_option synthInstance.maxSize 100000
set_option synthInstance.maxHeartbeats 2000000
namespace Go.V
open Go.RowKit Go.Proofs
theorem wf_u64 (n : Nat) (h : n < 18446744073709551616) : (Lit.int .u64 (n : Int)).wf = true := by
  have h0 : IntKind.u64.min = 0 := by decide
  have h1 : IntKind.u64.max = 18446744073709551615 := by decide
  simp only [Lit.wf, h0, h1]
  simp
  omega
theorem u64_lits (n : Nat) (h : n < 18446744073709551616) : C.P.keyLits 1 Zep [.int .u64 (n : Int)] = some [.int .u64 (n : Int)] := by
  have hu : C.P.underlying Zep = some (.int .u64) := by kernel_rfl
  unfold Program.keyLits
  simp only [hu, wf_u64 n h, and_self, if_true]
theorem set_lits {a b c d : Nat} (ha : a < 18446744073709551616) (hb : b < 18446744073709551616) (hc : c < 18446744073709551616) (hd : d < 18446744073709551616) :
    C.P.keyLits 2 Zai [.int .u64 (a : Int), .int .u64 (b : Int), .int .u64 (c : Int), .int .u64 (d : Int)] = some [.int .u64 (a : Int), .int .u64 (b : Int), .int .u64 (c : Int), .int .u64 (d : Int)] := by
  have hu : C.P.underlying Zai = some (.array 4 Zep) := by kernel_rfl
  have h1 : C.P.cellsOf Zai = 4 := by kernel_rfl
  have h2 : C.P.cellsOf Zep = 1 := by kernel_rfl
  unfold Program.keyLits
  simp only [hu, h1, h2]
  have hr : List.range 4 = [0, 1, 2, 3] := rfl
  rw [hr]
  simp [u64_lits _ ha, u64_lits _ hb, u64_lits _ hc, u64_lits _ hd]
def sEq (S T : Nat → Bool) : Bool := decide (sw S 0 = sw T 0 ∧ sw S 1 = sw T 1 ∧ sw S 2 = sw T 2 ∧ sw S 3 = sw T 3)
theorem ZgI {env : List D} {H : Heap} {dst : Option Tmp} {x y : Operand} {ty T' : TypeId} {pos : String} {aft : Array Edge} {gd : Option (Nat × Bool)} {S T : Nat → Bool} (hx : evO C env x = some (setD S)) (hy : evO C env y = some (setD T)) :
    OpQ C ⟨dst, .binOp .eql Zai x y T', ty, pos, aft, gd⟩ env H (.bool (sEq S T)) :=
  Zfr (m := 2) (f := 2) (by kernel_rfl) (by decide) (by kernel_rfl) hx hy rfl rfl rfl rfl (set_lits (sw_lt S 0) (sw_lt S 1) (sw_lt S 2) (sw_lt S 3)) (set_lits (sw_lt T 0) (sw_lt T 1) (sw_lt T 2) (sw_lt T 3)) (by
    unfold sEq
    rw [decide_eq_true_eq]
    simp only [List.cons.injEq, Lit.int.injEq, true_and, and_true, Int.ofNat_inj]
    )
theorem sEq_ext {S T : Nat → Bool} : sEq S T = true ↔ ∀ c, c < 256 → S c = T c := by
  unfold sEq
  rw [decide_eq_true_eq]
  constructor
  · rintro ⟨h0, h1, h2, h3⟩ c hc
    have hj : c % 64 < 64 := Nat.mod_lt _ (by decide)
    have e : ∀ i, i < 4 → sw S i = sw T i := fun i hi => match i, hi with
      | 0, _ => h0 | 1, _ => h1 | 2, _ => h2 | 3, _ => h3
    have h := congrArg (fun x => x.testBit (c % 64)) (e (c / 64) (by omega))
    simp only [sw_bit _ _ hj] at h
    rw [show 64 * (c / 64) + c % 64 = c by omega] at h
    exact h
  intro h
  have e : ∀ i, i < 4 → sw S i = sw T i := fun i hi => sw_congr fun j hj => h _ (by omega)
  exact ⟨e 0 (by decide), e 1 (by decide), e 2 (by decide), e 3 (by decide)⟩
end Go.V
set_option maxHeartbeats 8000000
set_option maxRecDepth 100000
set_option synthInstance.maxSize 100000
set_option synthInstance.maxHeartbeats 2000000
namespace Go.V
open Go.RowKit Go.Proofs
def svalid (p : Pc) : Bool :=
  bif spl p then (((decide (p.arg = 0) && decide (p.wid = 0)) && decide (p.len = 0)) && sEq p.set sempty) && ((decide (p.conv = 0) && slit p.lit) || (!decide (p.conv = 0) && decide (sby p.lit = [])))
  else bif (((((decide (sclass p.conv = 0) || !decide (sby p.lit = [])) || decide (p.arg < 0)) || decide (p.arg > 64)) || decide (p.wid < 0)) || decide (p.wid > 10000)) || !slong ((sclass p.conv : Nat) : Int) p.len then false
  else bif decide (p.conv = 110) && (decide (p.arg = 0) || decide (p.wid > 0)) then false
  else bif decide (p.conv = 91) then !p.set 0 else sEq p.set sempty
end Go.V
set_option maxHeartbeats 8000000
set_option maxRecDepth 100000
set_option synthInstance.maxSize 100000
set_option synthInstance.maxHeartbeats 2000000
namespace Go.V
open Go.RowKit Go.Proofs
def sadj (l : List Pc) (i : Nat) : Bool := decide (0 < i) && (decide ((l.getD i pcZ).conv = (l.getD (i - 1) pcZ).conv) && (decide ((l.getD i pcZ).conv = 0) || decide ((l.getD i pcZ).conv = 32)))
def sbad (l : List Pc) (i : Nat) : Bool := !svalid (l.getD i pcZ) || sadj l i
def schk (l : List Pc) (i : Nat) : Int × Int := if i < l.length then (bif sbad l i then (1, (i : Int)) else schk l (i + 1)) else bif (sgr l).2 then (0, 0) else (1, (l.length : Int))
termination_by l.length - i
def scheck (l : List Pc) : Int × Int := if 500 < l.length then (2, 0) else schk l 0
theorem schk_bad {l : List Pc} {i : Nat} (h : i < l.length) (g : sbad l i = true) : schk l i = (1, (i : Int)) := by rw [schk, if_pos h, g]; rfl
theorem schk_go {l : List Pc} {i : Nat} (h : i < l.length) (g : sbad l i = false) : schk l i = schk l (i + 1) := by rw [schk, if_pos h, g]; rfl
theorem schk_end {l : List Pc} {i : Nat} (h : ¬ i < l.length) : schk l i = bif (sgr l).2 then (0, 0) else (1, (l.length : Int)) := by rw [schk, if_neg h]
def PcW (p : Pc) : Prop := p.lit.size ≤ 1099511627776 ∧ p.conv < 256
theorem svalid_arg {p : Pc} (h : svalid p = true) : p.arg ≤ 64 := by
  unfold svalid at h
  cases a : spl p
  · rw [a, cond_false] at h
    cases b : (((((decide (sclass p.conv = 0) || !decide (sby p.lit = [])) || decide (p.arg < 0)) || decide (p.arg > 64)) || decide (p.wid < 0)) || decide (p.wid > 10000)) || !slong ((sclass p.conv : Nat) : Int) p.len
    · simp only [Bool.or_eq_false_iff, decide_eq_false_iff_not] at b
      omega
    rw [b] at h; cases h
  rw [a, cond_true] at h
  simp only [Bool.and_eq_true, decide_eq_true_eq] at h
  omega
end Go.V
set_option maxHeartbeats 8000000
set_option maxRecDepth 100000
set_option synthInstance.maxSize 100000
set_option synthInstance.maxHeartbeats 2000000
namespace Go.V
open Go.RowKit Go.Proofs
theorem schk_all {l : List Pc} {i : Nat} (h : (schk l i).1 = 0) : ∀ j, i ≤ j → j < l.length → svalid (l.getD j pcZ) = true := by
  rw [schk] at h
  split at h
  · rename_i g
    cases b : sbad l i
    · rw [b, cond_false] at h
      have ih := schk_all h
      intro j hj hl
      rcases Nat.eq_or_lt_of_le hj with e | e
      · subst e
        unfold sbad at b
        rw [Bool.or_eq_false_iff] at b
        simpa using b.1
      exact ih j e hl
    rw [b, cond_true] at h; cases h
  intro j hj hl; omega
termination_by l.length - i
theorem scheck_arg {l : List Pc} (h : (scheck l).1 = 0) : ∀ p ∈ l, p.arg ≤ 64 := by
  unfold scheck at h
  split at h
  · cases h
  intro p hp
  obtain ⟨j, hj, e⟩ := List.getElem_of_mem hp
  have := schk_all h j (Nat.zero_le _) hj
  rw [List.getD_eq_getElem?_getD, List.getElem?_eq_getElem hj] at this
  rw [← e]
  exact svalid_arg this
def sArgs (l : List Pc) : Int × Int := if (scheck l).1 = 0 then ((sgr l).1, 0) else (0, (scheck l).1)
def sOrd (l : List Pc) : Bool × Int := if (scheck l).1 = 0 then (sord l 0, 0) else (false, (scheck l).1)
end Go.V
set_option maxHeartbeats 8000000
set_option maxRecDepth 100000
set_option synthInstance.maxSize 100000
set_option synthInstance.maxHeartbeats 2000000
namespace Go.V
open Go.RowKit Go.Proofs
def lensN : List (List Nat) := [[], [104, 104], [104], [108], [108, 108], [106], [122], [116], [76], [72], [68], [68, 68]]
def lensA : List D := lensN.map fun r => D.str (bytesOf r)
theorem lensA_get : ∀ i, i < 12 → (lensA.drop (i * 1))[0]? = some (.str (bytesOf (lensN.getD i [])))
  | 0, _ | 1, _ | 2, _ | 3, _ | 4, _ | 5, _ | 6, _ | 7, _ | 8, _ | 9, _ | 10, _ | 11, _ => rfl
  | i + 12, h => by omega
theorem lensN_len : ∀ i, (lensN.getD i []).length ≤ 2
  | 0 | 1 | 2 | 3 | 4 | 5 | 6 | 7 | 8 | 9 | 10 | 11 => by decide
  | i + 12 => by show ([] : List Nat).length ≤ 2; decide
theorem dnum_len (n : Nat) : (dnum n).length ≤ n + 1 := by
  rw [dnum]; split
  · have := dnum_len (n / 10)
    rw [List.length_append]; simp only [List.length_cons, List.length_nil]; omega
  simp
termination_by n
decreasing_by omega
theorem setTx_len (S : Nat → Bool) : (setTx S).1.length ≤ 300 := by
  have hb : ∀ T, (setBody T).length ≤ 260 := fun T => by
    have := rtx_len T 1
    have h1 : ∀ b c, (pre1 b c).length ≤ 1 := fun b c => by cases b <;> simp [pre1]
    have a1 := h1 (T 93) 93
    have a2 := h1 (T 94) 94
    have a3 := h1 (T 45) 45
    unfold setBody
    simp only [List.length_append]; omega
  unfold setTx
  cases S 0
  · rw [cond_false]
    cases setNeg (ssize S 256) (S 94)
    · rw [cond_false]
      cases (decide (ssize S 256 = 2) && S 94) && S 45
      · have := hb S; show (setBody S).length ≤ 300; omega
      show (2 : Nat) ≤ 300; decide
    have := hb (sother S); show (setBody (sother S)).length + 1 ≤ 300; omega
  exact Nat.zero_le _
def pHead (p : Pc) (pos : Bool) : List Nat := if p.arg = 0 then [37, 42] else bif pos then (37 :: dnum p.arg.toNat) ++ [36] else [37]
def pWid (p : Pc) : List Nat := if p.wid > 0 then dnum p.wid.toNat else []
def pSet (p : Pc) : List Nat := if p.conv = 91 then (setTx p.set).1 ++ [93] else []
def sconv (p : Pc) (pos : Bool) : List Nat := pHead p pos ++ (pWid p ++ (lensN.getD p.len.toNat [] ++ ([p.conv] ++ pSet p)))
def sprn (p : Pc) (pos : Bool) : ByteArray := if p.conv = 32 then bytesOf [32] else if p.conv = 0 then p.lit else if p.conv = 37 then bytesOf [37, 37] else bytesOf (sconv p pos)
end Go.V
set_option maxHeartbeats 8000000
set_option maxRecDepth 100000
set_option synthInstance.maxSize 100000
set_option synthInstance.maxHeartbeats 2000000
namespace Go.V
open Go.RowKit Go.Proofs
theorem slong_rng {row len : Int} (h : slong row len = true) : 0 ≤ len ∧ len ≤ 11 := by
  unfold slong at h
  split at h
  · omega
  split at h
  · simp only [Bool.and_eq_true, decide_eq_true_eq] at h; omega
  split at h
  · simp only [Bool.or_eq_true, Bool.and_eq_true, decide_eq_true_eq] at h; omega
  split at h
  · simp only [decide_eq_true_eq] at h; omega
  cases h
theorem svalid_rng {p : Pc} (h : svalid p = true) : (0 ≤ p.arg ∧ p.arg ≤ 64) ∧ (0 ≤ p.wid ∧ p.wid ≤ 10000) ∧ (0 ≤ p.len ∧ p.len ≤ 11) := by
  unfold svalid at h
  cases a : spl p
  · rw [a, cond_false] at h
    cases b : (((((decide (sclass p.conv = 0) || !decide (sby p.lit = [])) || decide (p.arg < 0)) || decide (p.arg > 64)) || decide (p.wid < 0)) || decide (p.wid > 10000)) || !slong ((sclass p.conv : Nat) : Int) p.len
    · simp only [Bool.or_eq_false_iff, decide_eq_false_iff_not, Bool.not_eq_false'] at b
      have := slong_rng b.2
      omega
    rw [b] at h; cases h
  rw [a, cond_true] at h
  simp only [Bool.and_eq_true, decide_eq_true_eq] at h
  omega
def sprs (l : List Pc) (pos : Bool) : ByteArray := l.foldl (fun a p => a ++ sprn p pos) ByteArray.empty
theorem sprs_succ {l : List Pc} {i : Nat} (pos : Bool) (h : i < l.length) : sprs (l.take (i + 1)) pos = sprs (l.take i) pos ++ sprn (l.getD i pcZ) pos := by
  unfold sprs
  rw [List.take_add_one, List.getElem?_eq_getElem h, List.foldl_append, List.getD_eq_getElem?_getD, List.getElem?_eq_getElem h]; rfl
def sPrint (l : List Pc) : ByteArray × Int := if (scheck l).1 = 0 then (if 2000 < (sprs l (!sord l 0)).size then (ByteArray.empty, 2) else (sprs l (!sord l 0), 0)) else (ByteArray.empty, (scheck l).1)
theorem scheck_all {l : List Pc} (h : (scheck l).1 = 0) : l.length ≤ 500 ∧ ∀ j, j < l.length → svalid (l.getD j pcZ) = true := by
  unfold scheck at h
  split at h
  · cases h
  exact ⟨by omega, fun j hj => schk_all h j (Nat.zero_le _) hj⟩
end Go.V
/- INEQUALITY OF STRUCTS AND ARRAYS. -/
set_option maxHeartbeats 1000000
namespace Go.V
open Go.RowKit Go.Proofs
section
variable {C : Ctx} {env : List D} {H : Heap} {dst : Option Tmp} {ty : TypeId} {pos : String} {aft : Array Edge} {gd : Option (Nat × Bool)} {x y : Operand} {T T' e : TypeId}
theorem Zf4 {ds es : List D} {vs ws : List Value} {m f : Nat} {la lb : List Lit} {r : Bool} (hk : C.P.keyTypeAt m T = true) (hm : m ≤ 10000) (hg : C.P.eqGuardType C.P.depth T = false) (hx : evO C env x = some (.agg ds)) (hy : evO C env y = some (.agg es)) (hvs : valsD ds = some vs) (hws : valsD es = some ws)
    (fx : (Value.agg vs.toArray).formed C.P T = true) (fy : (Value.agg ws.toArray).formed C.P T = true) (lx : C.P.keyLits f T vs = some la) (ly : C.P.keyLits f T ws = some lb) (hr : r = true ↔ la = lb) : OpQ C ⟨dst, .binOp .neq T x y T', ty, pos, aft, gd⟩ env H (.bool (!r)) :=
  OpQ.of_run fun L w μ a he => by
    have ex := he _ _ hx
    have ey := he _ _ hy
    simp only [VR] at ex ey
    obtain ⟨us, ex, hu⟩ := ex
    obtain ⟨us', ey, hu'⟩ := ey
    rw [valsD_ok hvs hu] at ex
    rw [valsD_ok hws hu'] at ey
    obtain ⟨r', hr', hiff⟩ := run_equalIn_deep (P := C.P) (10000 - m) m T hk w f f (.agg vs.toArray) (.agg ws.toArray) la lb fx fy (by simpa [Value.cells] using lx) (by simpa [Value.cells] using ly)
    rw [show 10000 - m + m = 10000 by omega] at hr'
    obtain rfl : r' = r := by rw [Bool.eq_iff_iff, hiff, hr]
    refine ⟨.bool (!r'), ?_, by simp only [VR]⟩
    have hr' : (Op.equal T (.agg vs.toArray) (.agg ws.toArray)).run C.P w = .ok r' w := hr'
    simp only [execOp, ex, ey, Sem.run_bind, run_eqGuard_agg hg, Result.andThen_ok]
    simp only [binOp, Sem.run_bind, hr', Result.andThen_ok, Sem.run_pure]
end
end Go.V
set_option maxHeartbeats 2000000
set_option maxRecDepth 100000
namespace Go.V
open Go.RowKit Go.Proofs
def PcF (p : Pc) : Prop := PcW p ∧ (Lit.int .i64 p.arg).wf = true ∧ (Lit.int .i64 p.wid).wf = true ∧ (Lit.int .i64 p.len).wf = true
def pcV (p : Pc) : List Value := [.string p.lit, .int .i64 p.arg, .int .i64 p.wid, .int .i64 p.len, .int .u8 (p.conv : Int), .int .u64 ((sw p.set 0 : Nat) : Int), .int .u64 ((sw p.set 1 : Nat) : Int), .int .u64 ((sw p.set 2 : Nat) : Int), .int .u64 ((sw p.set 3 : Nat) : Int)]
def pcL (p : Pc) : List Lit := [.string p.lit.data.toList, .int .i64 p.arg, .int .i64 p.wid, .int .i64 p.len, .int .u8 (p.conv : Int), .int .u64 ((sw p.set 0 : Nat) : Int), .int .u64 ((sw p.set 1 : Nat) : Int), .int .u64 ((sw p.set 2 : Nat) : Int), .int .u64 ((sw p.set 3 : Nat) : Int)]
theorem lit_int {T : TypeId} {k : IntKind} {n : Int} {f : Nat} (hu : C.P.underlying T = some (.int k)) (h : (Lit.int k n).wf = true) : C.P.keyLits (f + 1) T [.int k n] = some [.int k n] := by
  unfold Program.keyLits
  simp only [hu, h, and_self, if_true]
theorem lit_str {T : TypeId} {s : ByteArray} {f : Nat} (hu : C.P.underlying T = some .string) (h : s.size ≤ 1099511627776) : C.P.keyLits (f + 1) T [.string s] = some [.string s.data.toList] := by
  unfold Program.keyLits
  have : s.size ≤ maxLen := by rw [maxLen_eq]; omega
  simp only [hu, this, if_true]
theorem wf_u8 {n : Nat} (h : n < 256) : (Lit.int .u8 (n : Int)).wf = true := by
  have h0 : IntKind.u8.min = 0 := by decide
  have h1 : IntKind.u8.max = 255 := by decide
  simp only [Lit.wf, h0, h1]
  simp
  omega
theorem Ze8 {p : Pc} (h : PcF p) : C.P.keyLits 3 Zab (pcV p) = some (pcL p) := by
  obtain ⟨⟨h1, h2⟩, h3, h4, h5⟩ := h
  have hu : C.P.underlying Zab = _ := Tryd.underlying46
  have hc : C.P.cellsOf Zab = 9 := by kernel_rfl
  have c9 : C.P.cellsOf 9 = 1 := by kernel_rfl
  have c3 : C.P.cellsOf 3 = 1 := by kernel_rfl
  have c5 : C.P.cellsOf 5 = 1 := by kernel_rfl
  have c28 : C.P.cellsOf 28 = 4 := by kernel_rfl
  have k9 : C.P.keyLits 2 9 [.string p.lit] = _ := lit_str (by kernel_rfl) h1
  have ka : C.P.keyLits 2 3 [.int .i64 p.arg] = _ := lit_int (by kernel_rfl) h3
  have kw : C.P.keyLits 2 3 [.int .i64 p.wid] = _ := lit_int (by kernel_rfl) h4
  have kn : C.P.keyLits 2 3 [.int .i64 p.len] = _ := lit_int (by kernel_rfl) h5
  have k5 : C.P.keyLits 2 5 [.int .u8 (p.conv : Int)] = _ := lit_int (by kernel_rfl) (wf_u8 h2)
  have ks : C.P.keyLits 2 28 _ = _ := set_lits (sw_lt p.set 0) (sw_lt p.set 1) (sw_lt p.set 2) (sw_lt p.set 3)
  unfold Program.keyLits
  simp only [hu, hc]
  simp [pcV, pcL, c9, c3, c5, c28, k9, ka, kw, kn, k5, ks]
end Go.V
set_option maxHeartbeats 8000000
set_option maxRecDepth 100000
set_option synthInstance.maxSize 100000
set_option synthInstance.maxHeartbeats 2000000
namespace Go.V
open Go.RowKit Go.Proofs
def pEq (p q : Pc) : Bool := decide (p.lit.data.toList = q.lit.data.toList ∧ p.arg = q.arg ∧ p.wid = q.wid ∧ p.len = q.len ∧ p.conv = q.conv ∧ sw p.set 0 = sw q.set 0 ∧ sw p.set 1 = sw q.set 1 ∧ sw p.set 2 = sw q.set 2 ∧ sw p.set 3 = sw q.set 3)
theorem pEq_lits {p q : Pc} : pEq p q = true ↔ pcL p = pcL q := by
  unfold pEq pcL
  rw [decide_eq_true_eq]
  simp only [List.cons.injEq, Lit.int.injEq, Lit.string.injEq, true_and, and_true, Int.ofNat_inj]
theorem q_pcNe {env : List D} {H : Heap} {dst : Option Tmp} {x y : Operand} {ty T' : TypeId} {pos : String} {aft : Array Edge} {gd : Option (Nat × Bool)} {p q : Pc} (hx : evO C env x = some (pcA p)) (hy : evO C env y = some (pcA q)) (hp : PcF p) (hq : PcF q) :
    OpQ C ⟨dst, .binOp .neq Zab x y T', ty, pos, aft, gd⟩ env H (.bool (!pEq p q)) :=
  Zf4 (m := 3) (f := 3) (by kernel_rfl) (by decide) (by kernel_rfl) hx hy rfl rfl rfl rfl (Ze8 hp) (Ze8 hq) pEq_lits
def ssame : List Pc → List Pc → Bool
  | [], [] => true
  | p :: ps, q :: qs => pEq p q && ssame ps qs
  | _, _ => false
theorem ssame_len : ∀ {a b : List Pc}, ¬ a.length = b.length → ssame a b = false
  | [], [], h => absurd rfl h
  | [], _ :: _, _ => rfl
  | _ :: _, [], _ => rfl
  | p :: ps, q :: qs, h => by
    show (pEq p q && ssame ps qs) = false
    rw [ssame_len (fun e => h (by rw [List.length_cons, List.length_cons, e])), Bool.and_false]
theorem Zf5 (a b : List Pc) (ha : ∀ p ∈ a, PcF p) (hb : ∀ p ∈ b, PcF p) (hl : a.length ≤ 1099511627776) : PC C ZeW [slP a, slP b] (fun o => o = .ret (.bool (ssame a b))) := by
  obtain ⟨R, hR⟩ : ∃ R, R = ssame a b := ⟨_, rfl⟩
  rw [← hR]
  refine PC.rn Zer Zfx Zfy (rs := [.tmp 4]) (by rw [Zfz]) ?_
  refine ARun.seq (ARun.region ?_); refine zza ?_; refine AOps.nil (ARun.seq (ARun.seq (ARun.region ?_))); refine zzm ?_; refine zzN ?_; refine zzm ?_; refine zzN ?_
  refine y_op rfl (OpQ.cast (d' := .bool (!decide (a.length = b.length))) (q_int rfl rfl rfl) (congrArg D.bool (by rw [Bool.eq_iff_iff]; simp; omega))) ?_
  refine AOps.nil ?_
  refine ARun.cond rfl (fun u => ?_) (fun u => ?_)
  · skip
    have u : ¬ a.length = b.length := by simpa using u
    rw [ssame_len u] at hR
    subst hR
    refine ARun.seq (ARun.region ?_); refine zza ?_; refine AOps.nil ?_
    refine ARun.ret ?_
    refine ⟨_, _, _, .tmp rfl .nil, .cons (.same _) .nil, rfl, ?_⟩
    rfl
  have u : a.length = b.length := by simpa using u
  refine ARun.skip (ARun.seq (ARun.seq (ARun.region ?_))); refine zza ?_; refine AOps.nil (ARun.block ?_)
  refine ARun.loopI (S := Nat) (fun i : Nat => [(4, .any), (11, .any), (12, .any), (13, .any), (14, .any), (15, .any), (16, .any), (17, .any), (18, .any), (19, .any), (20, .any), (21, .any), (22, .any), (23, .any), (24, .any), (25, .any), (5, .int .i64 (i : Int))]) (fun i : Nat => []) (fun i : Nat => i ≤ a.length ∧ R = ssame (a.drop i) (b.drop i)) (fun i : Nat => a.length - i) (0) ?_ ?_ ?_ ?_
  · exact ⟨Nat.zero_le _, hR⟩
  · (repeat' first | exact envLe_nil | apply envLe_any | apply envLe_same)
  · rfl
  rintro i hinv ih
  obtain ⟨i1, i2⟩ := hinv
  refine ARun.seq (ARun.seq (ARun.region ?_)); refine zzm ?_; refine zzm ?_; refine zzN ?_; refine zzi ?_; refine AOps.nil ?_
  refine ARun.ite rfl (fun g => ?_) (fun g => ?_)
  · skip
    have g : i < a.length := by omega
    have g2 : i < b.length := by omega
    rw [drop_getD a i pcZ g, drop_getD b i pcZ g2, ssame] at i2
    have hd := pcs_drop a i g
    have hne := pcs_ne g
    have hd2 := pcs_drop b i g2
    have hne2 := pcs_ne g2
    have hp : PcF (a.getD i pcZ) := by rw [List.getD_eq_getElem?_getD, List.getElem?_eq_getElem g]; exact ha _ (List.getElem_mem g)
    have hq : PcF (b.getD i pcZ) := by rw [List.getD_eq_getElem?_getD, List.getElem?_eq_getElem g2]; exact hb _ (List.getElem_mem g2)
    generalize a.getD i pcZ = p at *
    generalize b.getD i pcZ = q at *
    refine ARun.skip (ARun.seq (ARun.block (ARun.seq ?_)))
    refine ARun.drawnP 9 (fun _ => False) mixC rfl rfl (by kernel_rfl) (fun _ _ h => h.elim) ?_
    refine .op rfl (q_move rfl) ?_
    refine .op rfl (q_move rfl) ?_
    refine .op rfl (Zav rfl rfl rfl rfl (by omega) (by omega) hne hd) ?_
    refine .op rfl (ZaR rfl rfl rfl rfl rfl) ?_
    refine .op rfl (q_move rfl) ?_
    refine .op rfl (q_move rfl) ?_
    refine .op rfl (Zav rfl rfl rfl rfl (by omega) (by omega) hne2 hd2) ?_
    refine .op rfl (ZaR rfl rfl rfl rfl rfl) ?_
    refine .op rfl (q_pcNe (p := p) (q := q) rfl rfl hp hq) ?_
    refine .nil (fun hG => ?_)
    refine AOps.nil ?_
    refine ARun.cond rfl (fun v => ?_) (fun v => ?_)
    · skip
      have v : pEq p q = false := by simpa using v
      rw [v, Bool.false_and] at i2
      subst i2
      refine ARun.seq (ARun.region ?_); refine zza ?_; refine AOps.nil ?_
      refine ARun.ret ?_
      refine ⟨_, _, _, .tmp rfl .nil, .cons (.same _) .nil, rfl, ?_⟩
      rfl
    have v : pEq p q = true := by simpa using v
    rw [v, Bool.true_and] at i2
    refine ARun.skip (ARun.inBlock (ARun.region ?_)); refine zzm ?_
    refine y_op rfl (q_add rfl rfl (nadd1_i64 (by omega))) ?_
    refine zza ?_; refine AOps.nil ?_
    refine ARun.again (ih (i + 1) ?_ ?_) ?_ ?_
    · exact ⟨g, i2⟩
    · omega
    · (repeat' first | exact envLe_nil | apply envLe_any | apply envLe_same)
    rfl
  rw [List.drop_eq_nil_of_le (by omega), List.drop_eq_nil_of_le (by omega)] at i2
  subst i2
  refine ARun.exit rfl ?_
  refine ARun.seq (ARun.region ?_); refine zza ?_; refine AOps.nil ?_
  refine ARun.ret ?_
  refine ⟨_, _, _, .tmp rfl .nil, .cons (.same _) .nil, rfl, ?_⟩
  rfl
end Go.V
set_option maxHeartbeats 8000000
set_option maxRecDepth 100000
set_option synthInstance.maxSize 100000
set_option synthInstance.maxHeartbeats 2000000
namespace Go.V
open Go.RowKit Go.Proofs
def lenAt (k : Nat) : List Nat := lensN.getD k []
theorem sby_lens {k : Nat} (h : k < 12) : sby (bytesOf (lenAt k)) = lenAt k := sby_bytesOf (match k, h with
  | 0, _ | 1, _ | 2, _ | 3, _ | 4, _ | 5, _ | 6, _ | 7, _ | 8, _ | 9, _ | 10, _ | 11, _ => by decide)
theorem sby_ext2 (s : ByteArray) (i n : Nat) : sby (s.extract i (i + n)) = ((sby s).drop i).take n := by
  unfold sby
  simp [ByteArray.data_extract, Array.toList_extract, List.extract, List.map_take, List.map_drop]
end Go.V
set_option maxHeartbeats 8000000
set_option maxRecDepth 100000
set_option synthInstance.maxSize 100000
set_option synthInstance.maxHeartbeats 2000000
namespace Go.V
open Go.RowKit Go.Proofs
theorem sby_nil {s : ByteArray} : decide (sby s = []) = !decide (0 < s.size) := by
  have hl := sby_len s
  rw [← decide_not]
  apply decide_eq_decide.2
  rw [← List.length_eq_zero_iff]; omega
theorem ZfA (s : ByteArray) (hmax : s.size ≤ 1099511627776) : PC C ZdX [.str s] (fun o => o = .ret (.bool (slit s))) := by
  obtain ⟨R, hR⟩ : ∃ R, R = slit s := ⟨_, rfl⟩
  rw [← hR]
  refine PC.rn ZbR Zdr Zds (rs := [.tmp 2]) (by rw [Zdt]) ?_
  refine ARun.seq (ARun.region ?_); refine zza ?_; refine AOps.nil (ARun.seq (ARun.seq (ARun.region ?_))); refine zzm ?_
  refine y_op rfl (Zae rfl rfl) ?_
  refine zzm ?_; refine AOps.nil (ARun.block ?_)
  refine ARun.loopI (S := Nat) (fun i : Nat => [(2, .any), (3, .any), (7, .any), (8, .any), (9, .any), (10, .any), (11, .any), (12, .any), (13, .any), (14, .any), (6, .int .i64 (i : Int))]) (fun i : Nat => []) (fun i : Nat => i ≤ s.size ∧ ∀ j, j < i → splain ((sby s).getD j 0) = true) (fun i : Nat => s.size - i) (0) ?_ ?_ ?_ ?_
  · exact ⟨Nat.zero_le _, fun j h => absurd h (Nat.not_lt_zero j)⟩
  · (repeat' first | exact envLe_nil | apply envLe_any | apply envLe_same)
  · rfl
  rintro i hinv ih
  obtain ⟨i1, i2⟩ := hinv
  refine ARun.seq (ARun.region ?_); refine zzi ?_; refine AOps.nil (ARun.seq ?_)
  refine ARun.ite rfl (fun g => ?_) (fun g => ?_)
  · skip
    have g : i < s.size := by omega
    refine ARun.skip (ARun.seq (ARun.block (ARun.seq (ARun.region ?_)))); refine zzm ?_; refine zza ?_; refine AOps.nil (ARun.seq (ARun.region ?_)); refine zzm ?_; refine zzm ?_
    refine y_op rfl (Zaq rfl rfl rfl (by omega) (by omega) (sby_get _)) ?_
    refine zzc rfl rfl (ZeX ((sby s).getD i 0)) ?_
    refine zzn ?_; refine AOps.nil ?_
    refine ARun.cond rfl (fun y => ?_) (fun y => ?_)
    · skip
      have y : splain ((sby s).getD i 0) = false := by simpa using y
      rw [slit_no g y] at hR
      subst hR
      refine ARun.seq (ARun.region ?_); refine zza ?_; refine AOps.nil ?_
      refine ARun.ret ?_
      refine ⟨_, _, _, .tmp rfl .nil, .cons (.same _) .nil, rfl, ?_⟩
      rfl
    have y : splain ((sby s).getD i 0) = true := by simpa using y
    refine ARun.skip (ARun.inBlock (ARun.region ?_))
    refine y_op rfl (q_add rfl rfl (nadd1_i64 (by omega))) ?_
    refine zzm ?_; refine AOps.nil ?_
    refine ARun.again (ih (i + 1) ?_ ?_) ?_ ?_
    · exact ⟨g, fun j hj => (Nat.lt_or_eq_of_le (Nat.le_of_lt_succ hj)).elim (i2 j) (fun e => by rw [e]; exact y)⟩
    · omega
    · (repeat' first | exact envLe_nil | apply envLe_any | apply envLe_same)
    rfl
  obtain rfl : i = s.size := by omega
  rw [slit_yes i2] at hR
  subst hR
  refine ARun.exit rfl ?_
  refine ARun.seq (ARun.region ?_); refine zzm ?_
  refine y_op rfl (OpQ.cast (d' := .bool (decide (0 < s.size))) (ZfZ rfl rfl) (congrArg D.bool (show (!_) = _ by rw [str_eq]; show (!decide (sby s = [])) = _; rw [sby_nil, Bool.not_not]))) ?_
  refine zza ?_; refine AOps.nil ?_
  refine ARun.ret ?_
  refine ⟨_, _, _, .tmp rfl .nil, .cons (.same _) .nil, rfl, ?_⟩
  rfl
end Go.V
set_option maxHeartbeats 8000000
set_option maxRecDepth 100000
set_option synthInstance.maxSize 100000
set_option synthInstance.maxHeartbeats 2000000
namespace Go.V
open Go.RowKit Go.Proofs
theorem slong_1 {row len : Int} (h : row = 1 ∨ row = 5) : slong row len = (decide (len ≥ 0) && decide (len ≤ 7)) := by
  unfold slong
  rw [if_pos h]
  split
  · rw [Bool.eq_iff_iff]; simp only [Bool.and_eq_true, decide_eq_true_eq]; omega
  rw [Bool.eq_iff_iff]; simp only [Bool.and_eq_true, decide_eq_true_eq]; omega
theorem slong_2 {row len : Int} (h : row = 2) : slong row len = ((decide (len = 0) || decide (len = 3)) || (decide (len ≥ 8) && decide (len ≤ 11))) := by
  subst h
  unfold slong
  rw [Bool.eq_iff_iff]
  split
  · simp only [Bool.or_eq_true, Bool.and_eq_true, decide_eq_true_eq]; omega
  rw [if_neg (by decide), if_pos rfl]
  simp only [Bool.or_eq_true, Bool.and_eq_true, decide_eq_true_eq]; omega
theorem slong_3 {row len : Int} (h : row = 3) : slong row len = (decide (len = 0) || decide (len = 3)) := by
  subst h
  unfold slong
  rw [Bool.eq_iff_iff]
  split
  · simp only [Bool.or_eq_true, decide_eq_true_eq]; omega
  rw [if_neg (by decide), if_neg (by decide), if_pos rfl]
  simp only [Bool.or_eq_true, decide_eq_true_eq]; omega
theorem slong_4 {row len : Int} (h : row = 0 ∨ row = 4) : slong row len = (decide (row = 4) && decide (len = 0)) := by
  unfold slong
  rw [Bool.eq_iff_iff]
  split
  · simp only [Bool.and_eq_true, decide_eq_true_eq]; omega
  rw [if_neg (by omega), if_neg (by omega), if_neg (by omega)]
  simp only [Bool.and_eq_true, decide_eq_true_eq]
  constructor
  · intro h; cases h
  intro h; omega
theorem ZfF (row len : Int) (hr : 0 ≤ row ∧ row ≤ 5) : PC C ZeQ [.int .i64 row, .int .i64 len] (fun o => o = .ret (.bool (slong row len))) := by
  obtain ⟨R, hR⟩ : ∃ R, R = slong row len := ⟨_, rfl⟩
  rw [← hR]
  refine PC.rn ZcR ZeC ZeD (rs := [.tmp 4]) (by rw [ZeE]) ?_
  refine ARun.seq (ARun.region ?_); refine zza ?_; refine AOps.nil (ARun.seq (ARun.seq (ARun.region ?_))); refine zzm ?_; refine AOps.nil (ARun.block (ARun.seq (ARun.seq (ARun.region ?_)))); refine zzi ?_; refine zza ?_; refine AOps.nil ?_
  refine ARun.cond rfl (fun b => ?_) (fun b => ?_)
  · skip
    rw [slong_1 (.inl (of_decide_eq_true b))] at hR
    subst hR
    rw [b]
    refine ARun.skip ?_
    refine ARun.condT rfl ?_
    refine ARun.seq (ARun.region ?_); refine zzm ?_; refine zzi ?_; refine zzm ?_
    apply AOps.andJ 11 (fun sj1 => [(11, .any), (12, .any), (13, .any), (14, .bool sj1)]) rfl
    · intro hj1 run1
      try replace hj1 := of_decide_eq_true hj1
      refine zzm ?_; refine zzi ?_; refine zzp ?_
      exact AOps.ag run1
    · intro hj1 run1
      try replace hj1 := of_decide_eq_false hj1
      refine zzk ?_; refine zzk ?_; refine zzp ?_
      exact AOps.ag run1
    refine zza ?_; refine AOps.nil ?_
    refine ARun.ret ?_
    refine ⟨_, _, _, .tmp rfl .nil, .cons (.same _) .nil, rfl, ?_⟩
    rfl
  have b' := of_decide_eq_false b
  clear b
  refine ARun.region ?_; refine zzi ?_; refine zza ?_; refine AOps.nil ?_
  refine ARun.cond rfl (fun d => ?_) (fun d => ?_)
  · skip
    rw [slong_1 (.inr (of_decide_eq_true d))] at hR
    subst hR
    refine ARun.seq (ARun.region ?_); refine zzm ?_; refine zzi ?_; refine zzm ?_
    apply AOps.andJ 11 (fun sj2 => [(11, .any), (12, .any), (13, .any), (14, .bool sj2)]) rfl
    · intro hj2 run2
      try replace hj2 := of_decide_eq_true hj2
      refine zzm ?_; refine zzi ?_; refine zzp ?_
      exact AOps.ag run2
    · intro hj2 run2
      try replace hj2 := of_decide_eq_false hj2
      refine zzk ?_; refine zzk ?_; refine zzp ?_
      exact AOps.ag run2
    refine zza ?_; refine AOps.nil ?_
    refine ARun.ret ?_
    refine ⟨_, _, _, .tmp rfl .nil, .cons (.same _) .nil, rfl, ?_⟩
    rfl
  have d' := of_decide_eq_false d
  refine ARun.seq (ARun.region ?_); refine zzi ?_; refine zza ?_; refine AOps.nil ?_
  refine ARun.ite rfl (fun e => ?_) (fun e => ?_)
  · skip
    rw [slong_2 e] at hR
    subst hR
    refine ARun.seq (ARun.region ?_); refine zzm ?_
    refine y_op rfl (OpQ.cast (d' := .bool (decide (len = 0))) (q_int rfl rfl rfl) rfl) ?_
    refine zzm ?_
    apply AOps.orJ 19 (fun sj3 => [(19, .any), (20, .any), (21, .any), (22, .bool sj3)]) rfl
    · intro hj3 run3
      try replace hj3 := of_decide_eq_true hj3
      refine zzk ?_; refine zzk ?_; refine zzp ?_
      exact AOps.ag run3
    · intro hj3 run3
      try replace hj3 := of_decide_eq_false hj3
      refine zzm ?_
      refine y_op rfl (OpQ.cast (d' := .bool (decide (len = 3))) (q_int rfl rfl rfl) rfl) ?_
      refine zzp ?_
      exact AOps.ag run3
    refine zzm ?_
    apply AOps.orJ 23 (fun sj4 => [(23, .any), (24, .any), (25, .any), (26, .any), (27, .any), (28, .any), (29, .any), (30, .bool sj4)]) rfl
    · intro hj4 run4
      try replace hj4 := of_decide_eq_true hj4
      refine zzk ?_; refine zzk ?_; refine zzk ?_; refine zzk ?_; refine zzk ?_; refine zzk ?_; refine zzp ?_
      exact AOps.ag run4
    · intro hj4 run4
      try replace hj4 := of_decide_eq_false hj4
      refine zzm ?_; refine zzi ?_; refine zzm ?_
      apply AOps.andJ 26 (fun sj5 => [(26, .any), (27, .any), (28, .any), (29, .bool sj5)]) rfl
      · intro hj5 run5
        try replace hj5 := of_decide_eq_true hj5
        refine zzm ?_; refine zzi ?_; refine zzp ?_
        exact AOps.ag run5
      · intro hj5 run5
        try replace hj5 := of_decide_eq_false hj5
        refine zzk ?_; refine zzk ?_; refine zzp ?_
        exact AOps.ag run5
      refine zzp ?_
      exact AOps.ag run4
    refine zza ?_; refine AOps.nil ?_
    refine ARun.ret ?_
    refine ⟨_, _, _, .tmp rfl .nil, .cons (.same _) .nil, rfl, ?_⟩
    rfl
  refine ARun.seq (ARun.region ?_); refine zzi ?_; refine zza ?_; refine AOps.nil ?_
  refine ARun.ite rfl (fun f => ?_) (fun f => ?_)
  · skip
    rw [slong_3 f] at hR
    subst hR
    refine ARun.seq (ARun.region ?_); refine zzm ?_
    refine y_op rfl (OpQ.cast (d' := .bool (decide (len = 0))) (q_int rfl rfl rfl) rfl) ?_
    refine zzm ?_
    apply AOps.orJ 35 (fun sj6 => [(35, .any), (36, .any), (37, .any), (38, .bool sj6)]) rfl
    · intro hj6 run6
      try replace hj6 := of_decide_eq_true hj6
      refine zzk ?_; refine zzk ?_; refine zzp ?_
      exact AOps.ag run6
    · intro hj6 run6
      try replace hj6 := of_decide_eq_false hj6
      refine zzm ?_
      refine y_op rfl (OpQ.cast (d' := .bool (decide (len = 3))) (q_int rfl rfl rfl) rfl) ?_
      refine zzp ?_
      exact AOps.ag run6
    refine zza ?_; refine AOps.nil ?_
    refine ARun.ret ?_
    refine ⟨_, _, _, .tmp rfl .nil, .cons (.same _) .nil, rfl, ?_⟩
    rfl
  rw [slong_4 (by omega)] at hR
  subst hR
  refine ARun.skip (ARun.inBlock (ARun.seq (ARun.region ?_))); refine zzm ?_
  refine y_op rfl (OpQ.cast (d' := .bool (decide (row = 4))) (q_int rfl rfl rfl) rfl) ?_
  refine zzm ?_
  apply AOps.andJ 41 (fun sj7 => [(41, .any), (42, .any), (43, .any), (44, .bool sj7)]) rfl
  · intro hj7 run7
    try replace hj7 := of_decide_eq_true hj7
    refine zzm ?_
    refine y_op rfl (OpQ.cast (d' := .bool (decide (len = 0))) (q_int rfl rfl rfl) rfl) ?_
    refine zzp ?_
    exact AOps.ag run7
  · intro hj7 run7
    try replace hj7 := of_decide_eq_false hj7
    refine zzk ?_; refine zzk ?_; refine zzp ?_
    exact AOps.ag run7
  refine zza ?_; refine AOps.nil ?_
  refine ARun.ret ?_
  refine ⟨_, _, _, .tmp rfl .nil, .cons (.same _) .nil, rfl, ?_⟩
  rfl
end Go.V
set_option maxHeartbeats 8000000
set_option maxRecDepth 100000
set_option synthInstance.maxSize 100000
set_option synthInstance.maxHeartbeats 2000000
namespace Go.V
open Go.RowKit Go.Proofs
theorem Zd1 (l : List Pc) (hl : l.length ≤ 1099511627776) : PC C Zdq [slP l] (fun o => o = .ret (.bool (sord l 0))) := by
  obtain ⟨R, hR⟩ : ∃ R, R = sord l 0 := ⟨_, rfl⟩
  rw [← hR]
  refine PC.rn ZbB Zde Zdf (rs := [.tmp 2]) (by rw [Zdg]) ?_
  refine ARun.seq (ARun.region ?_); refine zza ?_; refine AOps.nil (ARun.seq (ARun.region ?_)); refine zza ?_; refine AOps.nil (ARun.seq (ARun.seq (ARun.region ?_))); refine zzm ?_; refine zzN ?_; refine zzm ?_; refine AOps.nil (ARun.block ?_)
  refine ARun.loopI (S := Nat × Nat) (fun σ : Nat × Nat => [(2, .any), (5, .any), (9, .any), (10, .any), (11, .any), (12, .any), (13, .any), (14, .any), (15, .any), (16, .any), (17, .any), (18, .any), (19, .any), (20, .any), (21, .any), (8, .int .i64 (σ.1 : Int)), (3, .int .i64 (σ.2 : Int))]) (fun σ : Nat × Nat => []) (fun σ : Nat × Nat => σ.1 ≤ l.length ∧ σ.2 ≤ σ.1 ∧ R = sord (l.drop σ.1) (σ.2 : Int)) (fun σ : Nat × Nat => l.length - σ.1) ((0, 0)) ?_ ?_ ?_ ?_
  · exact ⟨Nat.zero_le _, Nat.le_refl _, hR⟩
  · (repeat' first | exact envLe_nil | apply envLe_any | apply envLe_same)
  · rfl
  rintro ⟨i, n⟩ hinv ih
  dsimp only at hinv ih ⊢
  obtain ⟨i1, i2, i3⟩ := hinv
  refine ARun.seq (ARun.region ?_); refine zzi ?_; refine AOps.nil (ARun.seq ?_)
  refine ARun.ite rfl (fun g => ?_) (fun g => ?_)
  · skip
    have g : i < l.length := by omega
    rw [drop_getD l i pcZ g] at i3
    have hd := pcs_drop l i g
    have hne := pcs_ne g
    generalize l.getD i pcZ = p at *
    refine ARun.skip (ARun.seq (ARun.block (ARun.seq (ARun.region ?_))))
    refine y_op rfl (Zav rfl rfl rfl rfl (by omega) (by omega) hne hd) ?_
    refine zzL ?_
    refine ZbI rfl rfl rfl rfl rfl rfl rfl rfl rfl rfl rfl ?_
    refine AOps.nil (ARun.seq (ARun.region ?_)); refine zzf ?_; refine zzl ?_; refine zzi ?_; refine AOps.nil ?_
    refine ARun.ite rfl (fun a => ?_) (fun a => ?_)
    · skip
      rw [sord, if_pos a] at i3
      refine ARun.seq (ARun.region ?_); refine zzm ?_
      refine y_op rfl (OpQ.cast (d' := .int .i64 ((n + 1 : Nat) : Int)) (q_int rfl rfl rfl) (congrArg (D.int .i64) (by show IntKind.i64.wrap _ = _; rw [IntWalk.i64_in _ (by omega)]; omega))) ?_
      refine zza ?_; refine AOps.nil (ARun.seq (ARun.region ?_)); refine zzf ?_; refine zzl ?_; refine zzm ?_; refine zzi ?_; refine AOps.nil ?_
      refine ARun.cond rfl (fun b => ?_) (fun b => ?_)
      · skip
        have b : ¬ p.arg = (n : Int) + 1 := by
          intro e
          rw [e] at b
          simp at b
        rw [if_neg b] at i3
        subst i3
        refine ARun.seq (ARun.region ?_); refine zza ?_; refine AOps.nil ?_
        refine ARun.ret ?_
        refine ⟨_, _, _, .tmp rfl .nil, .cons (.same _) .nil, rfl, ?_⟩
        rfl
      have b : p.arg = (n : Int) + 1 := by simpa using b
      rw [if_pos b] at i3
      refine ARun.skip (ARun.inBlock (ARun.region ?_))
      refine y_op rfl (q_add rfl rfl (nadd1_i64 (by omega))) ?_
      refine zzm ?_; refine AOps.nil ?_
      refine ARun.again (ih ((i + 1, n + 1)) ?_ ?_) ?_ ?_
      · exact ⟨g, Nat.succ_le_succ i2, i3⟩
      · (dsimp only; omega)
      · (repeat' first | exact envLe_nil | apply envLe_any | apply envLe_same)
      rfl
    rw [sord, if_neg a] at i3
    refine ARun.skip (ARun.inBlock (ARun.region ?_))
    refine y_op rfl (q_add rfl rfl (nadd1_i64 (by omega))) ?_
    refine zzm ?_; refine AOps.nil ?_
    refine ARun.again (ih ((i + 1, n)) ?_ ?_) ?_ ?_
    · exact ⟨g, Nat.le_succ_of_le i2, i3⟩
    · (dsimp only; omega)
    · (repeat' first | exact envLe_nil | apply envLe_any | apply envLe_same)
    rfl
  rw [List.drop_eq_nil_of_le (by omega)] at i3
  subst i3
  refine ARun.exit rfl ?_
  refine ARun.seq (ARun.region ?_); refine zza ?_; refine AOps.nil ?_
  refine ARun.ret ?_
  refine ⟨_, _, _, .tmp rfl .nil, .cons (.same _) .nil, rfl, ?_⟩
  rfl
end Go.V
/- strconv.Itoa: the library's contract, laid at this seat's numbers; the context of tables. -/
set_option maxRecDepth 100000
set_option maxHeartbeats 1000000
namespace Go.V
open Go.Shelf Go.RowKit Go.Proofs
def bRen171 : Ren := ⟨fun | 129 => 99 | 171 => 74 | 243 => 89 | 246 => 93 | 283 => 94 | 284 => 95 | 285 => 96 | 286 => 97 | 317 => 98 | 318 => 100 | 319 => 101 | 320 => 102 | 337 => 103 | 338 => 104 | n => n, fun | 0 => 0 | 2 => 2 | 3 => 3 | 4 => 4 | 5 => 5 | 9 => 9 | 20 => 20 | 37 => 72 | 46 => 126 | 51 => 124 | 53 => 27 | 171 => 116 | 173 => 119 | 212 => 123 | 213 => 125 | 232 => 129 | 233 => 130 | n => n, fun | 17 => 3 | 18 => 4 | 19 => 5 | n => n⟩
theorem bLay171 : LaysM.n171 Tryd.prog bRen171 := {
  mixed := by kernel_rfl
  f129 := Tryd.func99.trans (congrArg some (by kernel_rfl))
  f171 := Tryd.func74.trans (congrArg some (by kernel_rfl))
  f243 := Tryd.func89.trans (congrArg some (by kernel_rfl))
  f246 := Tryd.func93.trans (congrArg some (by kernel_rfl))
  f283 := Tryd.func94.trans (congrArg some (by kernel_rfl))
  f284 := Tryd.func95.trans (congrArg some (by kernel_rfl))
  f285 := Tryd.func96.trans (congrArg some (by kernel_rfl))
  f286 := Tryd.func97.trans (congrArg some (by kernel_rfl))
  f317 := Tryd.func98.trans (congrArg some (by kernel_rfl))
  f318 := Tryd.func100.trans (congrArg some (by kernel_rfl))
  f319 := Tryd.func101.trans (congrArg some (by kernel_rfl))
  f320 := Tryd.func102.trans (congrArg some (by kernel_rfl))
  f337 := Tryd.func103.trans (congrArg some (by kernel_rfl))
  f338 := Tryd.func104.trans (congrArg some (by kernel_rfl))
  t0 := Tryd.underlying0
  a0 := Tryd.isAgg0
  z0 := Tryd.sizeOf0
  v0 := Tryd.zeroValue0
  t2 := Tryd.underlying2
  a2 := Tryd.isAgg2
  z2 := Tryd.sizeOf2
  v2 := Tryd.zeroValue2
  t3 := Tryd.underlying3
  a3 := Tryd.isAgg3
  z3 := Tryd.sizeOf3
  v3 := Tryd.zeroValue3
  t4 := Tryd.underlying4
  a4 := Tryd.isAgg4
  z4 := Tryd.sizeOf4
  v4 := Tryd.zeroValue4
  t5 := Tryd.underlying5
  a5 := Tryd.isAgg5
  z5 := Tryd.sizeOf5
  v5 := Tryd.zeroValue5
  t9 := Tryd.underlying9
  a9 := Tryd.isAgg9
  z9 := Tryd.sizeOf9
  v9 := Tryd.zeroValue9
  t20 := Tryd.underlying20
  a20 := Tryd.isAgg20
  z20 := Tryd.sizeOf20
  v20 := Tryd.zeroValue20
  t37 := Tryd.underlying72
  a37 := Tryd.isAgg72
  z37 := Tryd.sizeOf72
  v37 := Tryd.zeroValue72
  t46 := Tryd.underlying126
  a46 := Tryd.isAgg126
  z46 := Tryd.sizeOf126
  v46 := Tryd.zeroValue126
  t51 := Tryd.underlying124
  a51 := Tryd.isAgg124
  z51 := Tryd.sizeOf124
  v51 := Tryd.zeroValue124
  t53 := Tryd.underlying27
  a53 := Tryd.isAgg27
  z53 := Tryd.sizeOf27
  v53 := Tryd.zeroValue27
  t171 := Tryd.underlying116
  a171 := Tryd.isAgg116
  z171 := Tryd.sizeOf116
  v171 := Tryd.zeroValue116
  t173 := Tryd.underlying119
  a173 := Tryd.isAgg119
  z173 := Tryd.sizeOf119
  v173 := Tryd.zeroValue119
  t212 := Tryd.underlying123
  a212 := Tryd.isAgg123
  z212 := Tryd.sizeOf123
  v212 := Tryd.zeroValue123
  t213 := Tryd.underlying125
  a213 := Tryd.isAgg125
  z213 := Tryd.sizeOf125
  t232 := Tryd.underlying129
  a232 := Tryd.isAgg129
  z232 := Tryd.sizeOf129
  v232 := Tryd.zeroValue129
  t233 := Tryd.underlying130
  a233 := Tryd.isAgg130
  z233 := Tryd.sizeOf130
  v233 := Tryd.zeroValue130
  g17 := by kernel_rfl
  g18 := by kernel_rfl
  g19 := by kernel_rfl
  i0 := by kernel_rfl
  i2 := by kernel_rfl
  i3 := by kernel_rfl
  i4 := by kernel_rfl
  i5 := by kernel_rfl
  i9 := by kernel_rfl
  i20 := by kernel_rfl
  i37 := by kernel_rfl
  i46 := by kernel_rfl
  i51 := by kernel_rfl
  i53 := by kernel_rfl
  i171 := by kernel_rfl
  i173 := by kernel_rfl
  i212 := by kernel_rfl
  i232 := by kernel_rfl
  i233 := by kernel_rfl
  m17 := by kernel_rfl
  m18 := by kernel_rfl
  m19 := by kernel_rfl }
def rowEs : List (Nat × Nat) := [(65, 2), (69, 2), (70, 2), (71, 2), (88, 1), (91, 3), (97, 2), (98, 1), (99, 3), (100, 1), (101, 2), (102, 2), (103, 2), (105, 1), (110, 5), (111, 1), (112, 4), (115, 3), (117, 1), (120, 1)]
def rowKs : List D := rowEs.map fun e => D.int .u8 (e.1 : Int)
def rowVs : List D := rowEs.map fun e => D.int .i64 (e.2 : Int)
def powCells : List D := Lib.pow10Tab.map fun z => D.int .u64 z
noncomputable def Cg : Ctx := ⟨C.P, [(0, [.mapv rowKs rowVs]), (1, lensA), (3, powCells)], C.ty, C.ok⟩
theorem powTab {w : World} {L : Nat → Prop} (h : GR w L 3 powCells) : Lib.TabIs Tryd.prog w "internal/strconv.uint64pow10" .u64 Lib.pow10Tab := by
  obtain ⟨hv, cur, e, fz, h1, h2⟩ := h
  have hg : Tryd.prog.globalNamed "internal/strconv.uint64pow10" = some 3 := by kernel_rfl
  unfold Lib.TabIs World.var?
  rw [hg]
  simp only [Option.bind_some, h1]
  congr 1
  apply Array.ext
  · rw [h2]; unfold powCells; simp
  intro i hi hi2
  have hl : i < powCells.length := by rw [← h2]; exact hi
  obtain ⟨d, hd⟩ : ∃ d, powCells[i]? = some d := ⟨_, List.getElem?_eq_getElem hl⟩
  obtain ⟨v, k1, _, k3⟩ := VRL_get hv hd
  rw [Nat.zero_add, Addr.add_lit, Nat.zero_add, Lib.cell_of_heap h1] at k1
  unfold powCells at hd
  rw [List.getElem?_map] at hd
  cases hz : Lib.pow10Tab[i]? with
  | none => rw [hz] at hd; cases hd
  | some z =>
    rw [hz] at hd
    injection hd with hd
    subst hd
    simp only [VR] at k3
    subst k3
    rw [Array.getElem?_eq_getElem hi] at k1
    injection k1 with k1
    rw [k1]
    simp only [List.getElem_toArray, List.getElem_map]
    rw [List.getElem?_eq_some_iff] at hz
    obtain ⟨_, hz⟩ := hz
    rw [hz]
theorem PC.of_belowS {C : Ctx} {f : FuncId} {args : List D} {d : D} {v : Value} (he : Enters C.P f) (hv : ∀ (w : World) (L : Nat → Prop) (μ : List Nat) (H : Heap), VR w L μ H d v)
    (h : ∀ (w : World) (L0 : Nat → Prop) (μ : List Nat) (H : Heap) (vs : List Value), SR C L0 w μ H → VRs w (forb L0 μ H) μ H args vs → Calls C.P f vs.toArray w fun e w' => e = .returned v ∧ Below w.heap.size w w') : PC C f args (fun o => o = .ret d) := by
  intro H
  refine ⟨he, fun L0 w μ vs hs ha => (h w L0 μ H vs hs ha).mono fun e w' ⟨h1, h2⟩ => ?_⟩
  have hevo : Evo w w' μ μ H H :=
    ⟨h2.os, h2.tape, h2.output, h2.size, fun k hk _ => h2.block k hk, fun k _ hk => hk, fun _ _ h => h, fun i x hx => ⟨x, hx, fun o e => ⟨o, e, rfl, rfl, rfl, fun b cur _ hw => ⟨cur, by rw [h2.block b (Array.getElem?_eq_some_iff.1 hw).1]; exact hw, rfl⟩⟩⟩⟩
  exact ⟨.ret d, H, μ, ⟨rfl, rfl⟩, hs.next hevo hs.len (fun i o b k1 k2 => (hs.obj i o b k1 k2).same (h2.block b (hs.block_lt k1 k2))) hs.inj hs.own, ⟨v, h1, hv _ _ _ _⟩, hevo⟩
theorem itoa_dnum (n : Nat) : Lib.itoa (n : Int) = (dnum n).map UInt8.ofNat := by
  have e : ∀ n, Lib.decDigits n = (dnum n).map UInt8.ofNat := by
    intro n
    induction n using Nat.strongRecOn with
    | _ n ih =>
      by_cases h : n < 10
      · rw [Lib.decDigits, dif_pos h, dnum_one (by omega), show n % 10 = n by omega]; rfl
      rw [Lib.decDigits, dif_neg h, dnum_big (by omega), List.map_append, ih (n / 10) (by omega)]; rfl
  unfold Lib.itoa
  rw [if_neg (by omega), Int.toNat_natCast]
  exact e n
theorem Zf6 (n : Nat) (hn : n ≤ 1000000) : PC Cg ZbV [.int .i64 (n : Int)] (fun o => o = .ret (.str (bytesOf (dnum n)))) := by
  refine PC.of_belowS (C := Cg) (v := .string (bytesOf (dnum n))) ZeG (fun _ _ _ _ => by simp only [VR]) (fun w L μ H vs hs ha => ?_)
  simp only [VRs, VR] at ha
  obtain ⟨_, _, rfl, rfl, rfl⟩ := ha
  obtain ⟨_, _, hg⟩ := hs.glob 3 powCells (by unfold Cg; simp)
  refine (Any.strconv_Itoa bLay171 (n : Int) (by omega) (by omega) w (powTab hg)).mono fun e w' h => ?_
  obtain ⟨h1, k, os, h2⟩ := h
  refine ⟨by rw [h1, itoa_dnum]; rfl, ?_⟩
  subst h2
  exact ⟨rfl, rfl, rfl, by show w.heap.size ≤ (w.heap ++ os).size; rw [Array.size_append]; omega, fun j hj => by show (w.heap ++ os)[j]? = _; rw [Array.getElem?_append_left hj]⟩
theorem PC.g {f : FuncId} {args : List D} {r : Out → Prop} (h : PC C f args r) : PC Cg f args r := PC.gl (ty := C.ty) (ok := C.ok) h
theorem HC.g {f : FuncId} {H : Heap} {args : List D} {R : Out → Heap → Prop} (h : HC C f H args R) : HC Cg f H args R := HC.gl (ty := C.ty) (ok := C.ok) h
theorem row_of {c : Nat} (h : c < 256) : findI .u8 (c : Int) (rowKs.zip rowVs) = some (if sclass c = 0 then none else some (.int .i64 ((sclass c : Nat) : Int))) := by
  have e : ∀ (l : List (Nat × Nat)), findI .u8 (c : Int) ((l.map fun e => D.int .u8 (e.1 : Int)).zip (l.map fun e => D.int .i64 (e.2 : Int))) = some ((l.find? fun e => decide (c = e.1)).map fun e => D.int .i64 (e.2 : Int)) := by
    intro l
    induction l with
    | nil => rfl
    | cons a l ih =>
      simp only [List.map_cons, List.zip_cons_cons, findI, decide_true, cond_true, List.find?_cons]
      by_cases ha : c = a.1
      · rw [show ((c : Int) == (a.1 : Int)) = true by simp [ha], decide_eq_true ha]; rfl
      rw [show ((c : Int) == (a.1 : Int)) = false by simp; omega, decide_eq_false ha, cond_false]; exact ih
  unfold rowKs rowVs
  rw [e]
  have k : ∀ c, c < 256 → (rowEs.find? fun e => decide (c = e.1)).map (·.2) = if sclass c = 0 then none else some (sclass c) := by decide
  have k := k c h
  split at k
  · rename_i hz
    rw [if_pos hz]
    cases hf : rowEs.find? fun e => decide (c = e.1) with
    | none => rfl
    | some x => rw [hf] at k; cases k
  rename_i hz
  rw [if_neg hz]
  cases hf : rowEs.find? fun e => decide (c = e.1) with
  | none => rw [hf] at k; cases k
  | some x => rw [hf] at k; injection k with k; rw [← k]; rfl
end Go.V
/- A variable that is written once, where an assignment stands between. -/
namespace Go.V
open Go.RowKit
section
variable {C : Ctx} {Q : Post} {ops : Array Oper} {rest : List Oper} {k : List Item} {env env' : List D} {H : Heap} {df : List ADef} {t : Tmp} {T : TypeId} {te : TE} {d : D} {ds : List D} {y : Operand} {ty1 ty2 : TypeId} {p1 p2 : String} {a1 a2 : Array Edge}
theorem Zcn {u : Tmp} {z : Operand} {dm dz : D} {env1 : List D} {ty3 : TypeId} {p3 : String} {a3 : Array Edge} {zs : List D} (ht : C.ty T = some te) (hz : constD te.zero = some dz) (hzs : cellsD dz = some zs) (hzk : zs.all (okCell []) = true) (hzl : zs.length = te.size) (hzm : evO C env z = some dm) (hzt : ∀ t', z = .tmp t' → t' ≠ t) (hy : evO C ((env.set t .any).set u .any) y = some d) (hul : Nat.blt u env.length = true) (htl : Nat.blt t env.length = true) (hc : cellsD d = some ds) (hn : ds.length = te.size) (hok : ds.all (okCell H) = true) (hpu : D.pure.pures ds = true) (htu : t ≠ u) [hp : Put env (some t) (.sptr ds) env1] [hp2 : Put env1 (some u) dm env'] (hk : AOps C Q ops rest k env' H df) :
    AOps C Q ops (⟨some t, .alloc T, ty1, p1, a1, none⟩ :: ⟨some u, .assign z, ty3, p3, a3, none⟩ :: ⟨none, .store T (.tmp t) y, ty2, p2, a2, none⟩ :: rest) k env H df := by
  refine ⟨fun i hi => ⟨fun L0 w0 μ0 H0 w μ a hs hv hd he b cs hrd => ?_⟩⟩
  have ti := (ty_tic ht).1
  have htl' : t < env.length := Nat.le_of_ble_eq_true htl
  have hta : t < a.tmps.size := by have := VRs_length hv; rw [Array.length_toList] at this; rw [this]; exact htl'
  have ho1 : ops[i]? = some ⟨some t, .alloc T, ty1, p1, a1, none⟩ := by have := drop_get hi; simpa using this
  have hi1 := drop_next hi
  have hom : ops[i + 1]? = some ⟨some u, .assign z, ty3, p3, a3, none⟩ := by have := drop_get hi1; simpa using this
  have hi2 := drop_next hi1
  have ho2 : ops[i + 1 + 1]? = some ⟨none, .store T (.tmp t) y, ty2, p2, a2, none⟩ := by have := drop_get hi2; simpa using this
  let w1 := w.alloc (.cells te.zero.cells T)
  let ptr : Value := .pointer (some ⟨w.heap.size, 0, none⟩)
  let b1 := a.put (some t) ptr
  let b2 := b1.put (some u) (b1.eval z)
  have hezm := evO_ok hs hv hzm
  have hbz : b1.eval z = a.eval z := by
    cases z with
    | tmp t' =>
      simp only [Act.eval, b1, Act.put]
      rw [Array.getD_eq_getD_getElem?, Array.getD_eq_getD_getElem?, Array.getElem?_setIfInBounds_ne (fun e => hzt t' rfl e.symm)]
    | const v => rfl
    | global g => rfl
    | func f => rfl
  have hrunm : (execOp b1.eval ⟨some u, .assign z, ty3, p3, a3, none⟩).run C.P w1 = .ok (.value (b1.eval z)) w1 := by simp [execOp]
  have hrun1 : (execOp a.eval ⟨some t, .alloc T, ty1, p1, a1, none⟩).run C.P w = .ok (.value ptr) w1 := by
    simp [execOp, Instr.alloc, ti.run_zero, newVar, newRow, ptr, w1]
  have hnew : w1.heap[w.heap.size]? = some (.cells te.zero.cells T (0, 0)) := heap_alloc_new w _
  obtain ⟨sK, eK⟩ := hs.allocK (.cells te.zero.cells T)
  have st1 := eK.step L0
  have hy0 : evO C env y = some d ∧ b2.eval y = a.eval y := by
    cases y with
    | tmp t' =>
      simp only [evO] at hy ⊢
      rw [List.getElem?_set] at hy
      by_cases e : u = t'
      · subst e
        rw [if_pos rfl, if_pos (by rw [List.length_set]; exact Nat.le_of_ble_eq_true hul)] at hy
        injection hy with hy
        subst hy
        simp [cellsD] at hc
      rw [if_neg e, List.getElem?_set] at hy
      by_cases e2 : t = t'
      · subst e2
        rw [if_pos rfl, if_pos htl'] at hy
        injection hy with hy
        subst hy
        simp [cellsD] at hc
      rw [if_neg e2] at hy
      refine ⟨hy, ?_⟩
      simp only [Act.eval, b2, b1, Act.put]
      rw [Array.getD_eq_getD_getElem?, Array.getD_eq_getD_getElem?, Array.getElem?_setIfInBounds_ne e, Array.getElem?_setIfInBounds_ne e2]
    | const v => exact ⟨hy, rfl⟩
    | global g => exact ⟨hy, rfl⟩
    | func f => exact ⟨hy, rfl⟩
  have ey := evO_ok hs hv hy0.1
  rw [← hy0.2] at ey
  obtain ⟨v1, v2⟩ := cellsD_ok hc hok ey
  have vl := VRs_length v1
  obtain ⟨z1, _⟩ := cellsD_ok (w := w) (L := fun _ => True) (μ := []) (H := []) hzs hzk (constD_ok hz)
  have zl := VRs_length z1
  rw [Array.length_toList] at zl
  have hst := run_storeCells_at C.P w.heap.size 0 T (b2.eval y).cells.toList 0 te.zero.cells w1 hnew (by rw [vl]; omega) v2
  let cur' : Array Value := (te.zero.cells.toList.take 0 ++ (b2.eval y).cells.toList ++ te.zero.cells.toList.drop (0 + (b2.eval y).cells.toList.length)).toArray
  let w2 := w1.setRow w.heap.size cur'
  have hpt : b2.eval (.tmp t) = ptr := by
    simp only [Act.eval, b2, b1, Act.put]
    rw [Array.getD_eq_getD_getElem?, Array.getElem?_setIfInBounds_ne (fun e => htu e.symm), Array.getElem?_setIfInBounds]
    simp [hta]
  have hrun2 : (execOp b2.eval ⟨none, .store T (.tmp t) y, ty2, p2, a2, none⟩).run C.P w1 = .ok .skip w2 := by
    simp only [execOp, hpt, ptr, Sem.run_bind, Instr.storeAt, storeVar, Instr.sureAddr, Sem.run_pure, Result.andThen_ok, ti.run_size]
    have : ¬ (b2.eval y).cells.size ≠ te.size := by
      rw [Array.length_toList] at vl
      omega
    simp only [this, if_false, Sem.run_bind, Sem.run_pure, Result.andThen_ok]
    simp only [Nat.add_zero] at hst
    rw [hst]
    simp [w2, cur']
  rw [List.length_cons, List.length_cons, List.length_cons, List.range'_succ, List.range'_succ, List.range'_succ]
  have hwp1 : Oper.wp C.P ⟨some t, .alloc T, ty1, p1, a1, none⟩ a w (fun a' w' => a' = b1 ∧ w' = w1) (fun _ _ _ => False) := by
    unfold Oper.wp; rw [hrun1]; exact ⟨rfl, rfl⟩
  have hwpm : Oper.wp C.P ⟨some u, .assign z, ty3, p3, a3, none⟩ b1 w1 (fun a' w' => a' = b2 ∧ w' = w1) (fun _ _ _ => False) := by
    unfold Oper.wp; rw [hrunm]; exact ⟨rfl, rfl⟩
  have hwp2 : Oper.wp C.P ⟨none, .store T (.tmp t) y, ty2, p2, a2, none⟩ b2 w1 (fun a' w' => a' = b2 ∧ w' = w2) (fun _ _ _ => False) := by
    unfold Oper.wp; rw [hrun2]; exact ⟨rfl, rfl⟩
  have nd1 : ∀ (d' : Deferred) (w' : World), ¬ ((({ a with defers := d' :: a.defers } : Act).put (some t) undef) = b1 ∧ w' = w1) := fun d' w' ⟨h, _⟩ => no_defer h
  have ndm : ∀ (d' : Deferred) (w' : World), ¬ ((({ b1 with defers := d' :: b1.defers } : Act).put (some u) undef) = b2 ∧ w' = w1) := fun d' w' ⟨h, _⟩ => no_defer h
  have nd2 : ∀ (d' : Deferred) (w' : World), ¬ ((({ b2 with defers := d' :: b2.defers } : Act).put none undef) = b2 ∧ w' = w2) := fun d' w' ⟨h, _⟩ => no_defer (dst := none) (v := undef) h
  rcases op_step (rest := (i + 1) :: (i + 1 + 1) :: List.range' (i + 1 + 1 + 1) rest.length) ho1 (by simp [Region.wanted]) hwp1 (by rintro ⟨_, _, h⟩; exact h) b (.inr nd1) k cs with ⟨a', w', ⟨e1, e2⟩, hst1⟩ | ⟨_, _, _, h, _⟩
  · subst e1; subst e2
    rcases op_step (rest := (i + 1 + 1) :: List.range' (i + 1 + 1 + 1) rest.length) hom (by simp [Region.wanted]) hwpm (by rintro ⟨_, _, h⟩; exact h) b (.inr ndm) k cs with ⟨a', w', ⟨e1, e2⟩, hstm⟩ | ⟨_, _, _, h, _⟩
    rotate_left
    · exact h.elim
    subst e1; subst e2
    rcases op_step (rest := List.range' (i + 1 + 1 + 1) rest.length) ho2 (by simp [Region.wanted]) hwp2 (by rintro ⟨_, _, h⟩; exact h) b (.inr nd2) k cs with ⟨a', w', ⟨e1, e2⟩, hst2⟩ | ⟨_, _, _, h, _⟩
    · subst e1; subst e2
      have hoth : ∀ b', b' < w.heap.size → w2.heap[b']? = w.heap[b']? := fun b' hb' => by
        have h1 : w2.heap[b']? = w1.heap[b']? := setRow_other w1 w.heap.size b' cur' (by omega)
        rw [h1]; exact Below.heap_alloc w _ b' hb'
      have hsz : w2.heap.size = w.heap.size + 1 := by simp [w2, w1]
      have he2 : Evo w w2 μ μ H H := ⟨rfl, rfl, rfl, by omega, fun b' hb' _ => hoth b' hb', fun _ _ h => h, fun _ _ h => h, fun i x hx => ⟨x, hx, fun o' e => ⟨o', e, rfl, rfl, rfl, fun b' cur _ hw => ⟨cur, by rw [hoth b' (Array.getElem?_eq_some_iff.1 hw).1]; exact hw, rfl⟩⟩⟩⟩
      have hs2 : SR C L0 w2 μ H := hs.next he2 hs.len (fun i o b' h1 h2 => (hs.obj i o b' h1 h2).same (hoth b' (hs.block_lt h1 h2))) hs.inj hs.own
      have st2 := he2.step L0
      have hrow : w2.heap[w.heap.size]? = some (.cells cur' T (0, 0)) := setRow_heap w1 w.heap.size te.zero.cells cur' T (0, 0) hnew
      have hvp : VR w2 (forb L0 μ H) μ H (.sptr ds) ptr := by
        simp only [VR]
        refine ⟨⟨w.heap.size, 0, none⟩, rfl, by simp [hsz], fun hfb => Nat.lt_irrefl _ (hs.forb_lt hfb), VRL_mk fun j d' hd' => ?_⟩
        obtain ⟨v, k1, k2⟩ := VRs_get v1 hd'
        refine ⟨v, ?_, v2 v (List.mem_of_getElem? k1), ?_⟩
        · rw [Nat.zero_add, add_lit, cell_row hrow]
          simp only [cur', List.take_zero, List.nil_append, List.getElem?_toArray]
          rw [List.getElem?_append_left (List.getElem?_eq_some_iff.1 k1).1]; exact k1
        exact VR.step st2.pure (VR.drop (pures_at hpu hd') k2)
      have hv2 : VRs w2 (forb L0 μ H) μ H env' b2.tmps.toList := by
        have h1 : VRs w2 (forb L0 μ H) μ H env1 b1.tmps.toList := by
          rw [← hp.eq]
          exact VRs_put (dst := some t) (VRs.step st2 hv) hvp
        rw [← hp2.eq]
        exact VRs_put (dst := some u) h1 (by rw [hbz]; exact VR.step st2 hezm)
      obtain ⟨e, a', w', h3, h4⟩ := (hk.out (i + 1 + 1 + 1) (drop_next hi2)).out L0 w0 μ0 H0 w2 μ b2 hs2 hv2 (by rw [show b2.defers = a.defers from (put_defers b1 _ _).trans (put_defers a _ _)]; exact DfR.step st2 hd) (he.trans he2) b cs (hrd.step he2.map)
      exact ⟨e, a', w', h3, .of_steps (Steps.trans hst1 (Steps.trans hstm hst2)) h4⟩
    exact h.elim
  exact h.elim
end
end Go.V
