/- A part of the proof: abstract values, rules for the steps of the program's form, and contracts of its functions, each proved; no condition. -/
import Derived.Test.YthankfodgdfgaaaDoorA07
import Derived.Shelf.Strings.Search1
set_option linter.unusedVariables false
set_option linter.unusedSimpArgs false
set_option linter.unnecessarySimpa false
set_option maxHeartbeats 4000000
set_option maxRecDepth 100000
set_option synthInstance.maxSize 100000
set_option synthInstance.maxHeartbeats 2000000
namespace Go.V
open Go.RowKit Go.Proofs
theorem u8_ge {n m : Nat} {k : Int} (h : k = (m : Int)) : decide ((n : Int) ≥ k) = decide (m ≤ n) := decide_eq_decide.2 (by omega)
theorem u8_le {n m : Nat} {k : Int} (h : k = (m : Int)) : decide ((n : Int) ≤ k) = decide (n ≤ m) := decide_eq_decide.2 (by omega)
theorem u8_ne {n m : Nat} {k : Int} (h : k = (m : Int)) : ((n : Int) != k) = decide (n ≠ m) := by
  rw [Bool.eq_iff_iff, bne_iff_ne, decide_eq_true_eq]; omega
theorem Zed (c : Nat) : PC C ZcA [.int .u8 (c : Int)] (fun o => o = .ret (.bool (swhite c))) := by
  refine PC.rn Zb8 Zd6 Zd7 (rs := [.tmp 2]) (by rw [Zd8]) ?_
  refine ARun.seq (ARun.region ?_); refine zza ?_; refine AOps.nil (ARun.seq (ARun.region ?_)); refine zzm ?_
  refine y_op rfl (OpQ.cast (q_int rfl rfl rfl) (congrArg D.bool (u8_ge (m := 9) rfl))) ?_
  refine zzm ?_
  apply AOps.andJ 5 (fun sj1 => [(5, .any), (6, .any), (7, .any), (8, .bool sj1)]) rfl
  · intro hj1 run1
    try replace hj1 := of_decide_eq_true hj1
    refine zzm ?_
    refine y_op rfl (OpQ.cast (q_int rfl rfl rfl) (congrArg D.bool (u8_le (m := 13) rfl))) ?_
    refine zzp ?_
    exact AOps.ag run1
  · intro hj1 run1
    try replace hj1 := of_decide_eq_false hj1
    refine zzk ?_; refine zzk ?_; refine zzp ?_
    exact AOps.ag run1
  refine zzm ?_
  apply AOps.orJ 9 (fun sj2 => [(9, .any), (10, .any), (11, .any), (12, .bool sj2)]) rfl
  · intro hj2 run2
    try replace hj2 := of_decide_eq_true hj2
    refine zzk ?_; refine zzk ?_; refine zzp ?_
    exact AOps.ag run2
  · intro hj2 run2
    try replace hj2 := of_decide_eq_false hj2
    refine zzm ?_
    refine y_op rfl (OpQ.cast (q_int rfl rfl rfl) (congrArg D.bool (int_dec (m := 32) rfl))) ?_
    refine zzp ?_
    exact AOps.ag run2
  refine zza ?_; refine AOps.nil ?_
  refine ARun.ret ?_
  refine ⟨_, _, _, .tmp rfl .nil, .cons (.same _) .nil, rfl, ?_⟩
  rfl
theorem ZhI (c : Nat) : PC C Zhd [.int .u8 (c : Int)] (fun o => o = .ret (.bool (swhite c))) := by
  refine PC.rn Zek Zgx Zgy (rs := [.tmp 2]) (by rw [Zgz]) ?_
  refine ARun.seq (ARun.region ?_); refine zza ?_; refine AOps.nil (ARun.seq (ARun.region ?_)); refine zzm ?_
  refine y_op rfl (OpQ.cast (q_int rfl rfl rfl) (congrArg D.bool (u8_ge (m := 9) rfl))) ?_
  refine zzm ?_
  apply AOps.andJ 5 (fun sj1 => [(5, .any), (6, .any), (7, .any), (8, .bool sj1)]) rfl
  · intro hj1 run1
    try replace hj1 := of_decide_eq_true hj1
    refine zzm ?_
    refine y_op rfl (OpQ.cast (q_int rfl rfl rfl) (congrArg D.bool (u8_le (m := 13) rfl))) ?_
    refine zzp ?_
    exact AOps.ag run1
  · intro hj1 run1
    try replace hj1 := of_decide_eq_false hj1
    refine zzk ?_; refine zzk ?_; refine zzp ?_
    exact AOps.ag run1
  refine zzm ?_
  apply AOps.orJ 9 (fun sj2 => [(9, .any), (10, .any), (11, .any), (12, .bool sj2)]) rfl
  · intro hj2 run2
    try replace hj2 := of_decide_eq_true hj2
    refine zzk ?_; refine zzk ?_; refine zzp ?_
    exact AOps.ag run2
  · intro hj2 run2
    try replace hj2 := of_decide_eq_false hj2
    refine zzm ?_
    refine y_op rfl (OpQ.cast (q_int rfl rfl rfl) (congrArg D.bool (int_dec (m := 32) rfl))) ?_
    refine zzp ?_
    exact AOps.ag run2
  refine zza ?_; refine AOps.nil ?_
  refine ARun.ret ?_
  refine ⟨_, _, _, .tmp rfl .nil, .cons (.same _) .nil, rfl, ?_⟩
  rfl
theorem ZfP (c : Nat) : PC C ZcB [.int .u8 (c : Int)] (fun o => o = .ret (.bool (splain c))) := by
  unfold splain
  refine PC.rn Zb9 Zd9 Zea (rs := [.tmp 2]) (by rw [Zeb]) ?_
  refine ARun.seq (ARun.region ?_); refine zza ?_; refine AOps.nil (ARun.seq (ARun.region ?_)); refine zzm ?_
  refine y_op rfl (OpQ.cast (q_int rfl rfl rfl) (congrArg D.bool (u8_ne (m := 0) rfl))) ?_
  refine zzm ?_
  apply AOps.andJ 5 (fun sj1 => [(5, .any), (6, .any), (7, .any), (8, .bool sj1)]) rfl
  · intro hj1 run1
    try replace hj1 := of_decide_eq_true hj1
    refine zzm ?_
    refine y_op rfl (OpQ.cast (q_int rfl rfl rfl) (congrArg D.bool (u8_ne (m := 37) rfl))) ?_
    refine zzp ?_
    exact AOps.ag run1
  · intro hj1 run1
    try replace hj1 := of_decide_eq_false hj1
    refine zzk ?_; refine zzk ?_; refine zzp ?_
    exact AOps.ag run1
  refine zzm ?_
  apply AOps.andJ 9 (fun sj2 => [(9, .any), (10, .any), (11, .any), (12, .any), (13, .bool sj2)]) rfl
  · intro hj2 run2
    try replace hj2 := of_decide_eq_true hj2
    refine zzm ?_
    refine zzc rfl rfl (Zed c) ?_
    refine zzn ?_; refine zzp ?_
    exact AOps.ag run2
  · intro hj2 run2
    try replace hj2 := of_decide_eq_false hj2
    refine zzk ?_; refine zzk ?_; refine zzk ?_; refine zzp ?_
    exact AOps.ag run2
  refine zza ?_; refine AOps.nil ?_
  refine ARun.ret ?_
  refine ⟨_, _, _, .tmp rfl .nil, .cons (.same _) .nil, rfl, ?_⟩
  rw [Bool.and_assoc]; rfl
def sspec (c : Int) : Bool := decide (c = 93) || (decide (c = 94) || decide (c = 45))
theorem Zem (c : Int) : PC C Zge [.int .i64 c] (fun o => o = .ret (.bool (sspec c))) := by
  unfold sspec
  refine PC.rn Zdc ZfG ZfH (rs := [.tmp 2]) (by rw [ZfI]) ?_
  refine ARun.seq (ARun.region ?_); refine zza ?_; refine AOps.nil (ARun.seq (ARun.region ?_)); refine zzm ?_; refine zzi ?_; refine zzm ?_
  apply AOps.orJ 5 (fun sj1 => [(5, .any), (6, .any), (7, .any), (8, .bool sj1)]) rfl
  · intro hj1 run1
    try replace hj1 := of_decide_eq_true hj1
    refine zzk ?_; refine zzk ?_; refine zzp ?_
    exact AOps.ag run1
  · intro hj1 run1
    try replace hj1 := of_decide_eq_false hj1
    refine zzm ?_; refine zzi ?_; refine zzp ?_
    exact AOps.ag run1
  refine zzm ?_
  apply AOps.orJ 9 (fun sj2 => [(9, .any), (10, .any), (11, .any), (12, .bool sj2)]) rfl
  · intro hj2 run2
    try replace hj2 := of_decide_eq_true hj2
    refine zzk ?_; refine zzk ?_; refine zzp ?_
    exact AOps.ag run2
  · intro hj2 run2
    try replace hj2 := of_decide_eq_false hj2
    refine zzm ?_; refine zzi ?_; refine zzp ?_
    exact AOps.ag run2
  refine zza ?_; refine AOps.nil ?_
  refine ARun.ret ?_
  refine ⟨_, _, _, .tmp rfl .nil, .cons (.same _) .nil, rfl, ?_⟩
  rw [← Bool.or_assoc]; rfl
theorem size_in {k : Nat} (h : k < 256) : IntKind.u8.wrap (k : Int) = (k : Int) := by rw [IntKind.wrap_u8]; omega
theorem ZhZ (S : Nat → Bool) : PC C Ze1 [setD S] (fun o => o = .ret (.int .i64 ((ssize S 256 : Nat) : Int))) := by
  refine PC.rn Zcy ZeC ZeD (rs := [.tmp 2]) (by rw [ZeE]) ?_
  refine ARun.seq (ARun.region ?_); refine zzb ?_; refine zza ?_; refine AOps.nil (ARun.seq (ARun.region ?_)); refine zza ?_; refine AOps.nil (ARun.seq (ARun.seq (ARun.region ?_))); refine zzm ?_; refine AOps.nil (ARun.block ?_)
  refine ARun.loopI (S := Nat) (fun k : Nat => [(4, .any), (6, .any), (7, .any), (8, .any), (9, .any), (10, .any), (11, .any), (12, .any), (13, .any), (14, .any), (3, .int .i64 ((ssize S k : Nat) : Int)), (5, .int .i64 (k : Int))]) (fun k : Nat => []) (fun k : Nat => k ≤ 256) (fun k : Nat => 256 - k) (0) ?_ ?_ ?_ ?_
  · exact Nat.zero_le _
  · (repeat' first | exact envLe_nil | apply envLe_any | apply envLe_same)
  · rfl
  rintro k hinv ih
  have hle := ssize_le S k
  have hs := ssize_succ S k
  refine ARun.seq (ARun.region ?_); refine zzi ?_; refine AOps.nil (ARun.seq ?_)
  refine ARun.ite rfl (fun g => ?_) (fun g => ?_)
  · skip
    have g : k < 256 := by omega
    refine ARun.skip (ARun.seq (ARun.block (ARun.seq (ARun.region ?_)))); refine zzm ?_; refine zza ?_; refine AOps.nil (ARun.seq (ARun.region ?_)); refine zzL ?_; refine zzm ?_
    refine y_op rfl (q_conv rfl rfl rfl (size_in g)) ?_
    refine zzc rfl rfl (ZaL S k g) ?_
    refine AOps.nil ?_
    refine ARun.cond rfl (fun h => ?_) (fun h => ?_)
    · skip
      rw [h, cond_true] at hs
      refine ARun.region ?_; refine zzm ?_
      refine y_op rfl (q_add rfl rfl (nadd1_i64 (by omega))) ?_
      refine zza ?_; refine AOps.nil (ARun.inBlock (ARun.region ?_))
      refine y_op rfl (q_add rfl rfl (nadd1_i64 (by omega))) ?_
      refine zzm ?_; refine AOps.nil ?_
      rw [← hs]
      refine ARun.again (ih (k + 1) ?_ ?_) ?_ ?_
      · exact g
      · omega
      · (repeat' first | exact envLe_nil | apply envLe_any | apply envLe_same)
      rfl
    replace hs : ssize S (k + 1) = ssize S k := by rw [hs, h]; rfl
    refine ARun.skip (ARun.inBlock (ARun.region ?_))
    refine y_op rfl (q_add rfl rfl (nadd1_i64 (by omega))) ?_
    refine zzm ?_; refine AOps.nil ?_
    rw [← hs]
    refine ARun.again (ih (k + 1) ?_ ?_) ?_ ?_
    · exact g
    · omega
    · (repeat' first | exact envLe_nil | apply envLe_any | apply envLe_same)
    rfl
  obtain rfl : k = 256 := by omega
  refine ARun.exit rfl ?_
  refine ARun.seq (ARun.region ?_); refine zzm ?_; refine zza ?_; refine AOps.nil ?_
  refine ARun.ret ?_
  refine ⟨_, _, _, .tmp rfl .nil, .cons (.same _) .nil, rfl, ?_⟩
  rfl
theorem Zh0 (S : Nat → Bool) : PC C ZhF [setD S] (fun o => o = .ret (.int .i64 ((ssize S 256 : Nat) : Int))) := by
  refine PC.rn Ze3 Zg7 Zg8 (rs := [.tmp 2]) (by rw [Zg9]) ?_
  refine ARun.seq (ARun.region ?_); refine zzb ?_; refine zza ?_; refine AOps.nil (ARun.seq (ARun.region ?_)); refine zza ?_; refine AOps.nil (ARun.seq (ARun.seq (ARun.region ?_))); refine zza ?_; refine AOps.nil (ARun.block ?_)
  refine ARun.loopI (S := Nat) (fun k : Nat => [(5, .any), (6, .any), (7, .any), (8, .any), (9, .any), (10, .any), (11, .any), (12, .any), (13, .any), (14, .any), (3, .int .i64 ((ssize S k : Nat) : Int)), (4, .int .i64 (k : Int))]) (fun k : Nat => []) (fun k : Nat => k ≤ 256) (fun k : Nat => 256 - k) (0) ?_ ?_ ?_ ?_
  · exact Nat.zero_le _
  · (repeat' first | exact envLe_nil | apply envLe_any | apply envLe_same)
  · rfl
  rintro k hinv ih
  have hle := ssize_le S k
  have hs := ssize_succ S k
  refine ARun.seq (ARun.seq (ARun.region ?_)); refine zzm ?_; refine zzi ?_; refine AOps.nil ?_
  refine ARun.ite rfl (fun g => ?_) (fun g => ?_)
  · skip
    have g : k < 256 := by omega
    refine ARun.skip (ARun.seq (ARun.block (ARun.seq (ARun.region ?_)))); refine zzL ?_; refine zzm ?_
    refine y_op rfl (q_conv rfl rfl rfl (size_in g)) ?_
    refine zzc rfl rfl (ZaM S k g) ?_
    refine AOps.nil ?_
    refine ARun.cond rfl (fun h => ?_) (fun h => ?_)
    · skip
      rw [h, cond_true] at hs
      refine ARun.region ?_; refine zzm ?_
      refine y_op rfl (q_add rfl rfl (nadd1_i64 (by omega))) ?_
      refine zza ?_; refine AOps.nil (ARun.inBlock (ARun.region ?_)); refine zzm ?_
      refine y_op rfl (q_add rfl rfl (nadd1_i64 (by omega))) ?_
      refine zza ?_; refine AOps.nil ?_
      rw [← hs]
      refine ARun.again (ih (k + 1) ?_ ?_) ?_ ?_
      · exact g
      · omega
      · (repeat' first | exact envLe_nil | apply envLe_any | apply envLe_same)
      rfl
    replace hs : ssize S (k + 1) = ssize S k := by rw [hs, h]; rfl
    refine ARun.skip (ARun.inBlock (ARun.region ?_)); refine zzm ?_
    refine y_op rfl (q_add rfl rfl (nadd1_i64 (by omega))) ?_
    refine zza ?_; refine AOps.nil ?_
    rw [← hs]
    refine ARun.again (ih (k + 1) ?_ ?_) ?_ ?_
    · exact g
    · omega
    · (repeat' first | exact envLe_nil | apply envLe_any | apply envLe_same)
    rfl
  obtain rfl : k = 256 := by omega
  refine ARun.exit rfl ?_
  refine ARun.seq (ARun.region ?_); refine zzm ?_; refine zza ?_; refine AOps.nil ?_
  refine ARun.ret ?_
  refine ⟨_, _, _, .tmp rfl .nil, .cons (.same _) .nil, rfl, ?_⟩
  rfl
def othK (S : Nat → Bool) (k : Nat) : Nat → Bool := fun x => !S x && (decide (x ≠ 0) && decide (x < k))
theorem othK_one (S : Nat → Bool) : swL (othK S 1) = [.int .u64 0, .int .u64 0, .int .u64 0, .int .u64 0] := by
  have e : ∀ i, sw (othK S 1) i = 0 := fun i => (sw_ext (x := 0) (by decide) fun j _ => by
    rw [Nat.zero_testBit]; unfold othK
    by_cases h : 64 * i + j = 0
    · rw [decide_eq_false (show ¬ 64 * i + j ≠ 0 from fun h2 => h2 h)]; simp
    rw [decide_eq_false (show ¬ 64 * i + j < 1 by omega)]; simp).symm
  unfold swL
  rw [e, e, e, e]; rfl
theorem othK_succ (S : Nat → Bool) (k : Nat) (hk : 1 ≤ k) : othK S (k + 1) = bif S k then othK S k else swith (othK S k) k := by
  funext x
  unfold othK swith
  by_cases e : x = k
  · subst e
    rw [decide_eq_true (show x ≠ 0 by omega), decide_eq_true (show x < x + 1 by omega)]
    cases h : S x
    · simp
    simp [h]
  have : decide (x < k + 1) = decide (x < k) := decide_eq_decide.2 (by omega)
  rw [this]
  cases h : S k
  · rw [cond_false, decide_eq_false e, Bool.or_false]
  rfl
theorem othK_end (S : Nat → Bool) : swL (othK S 256) = swL (sother S) := swL_ext fun c hc => by
  unfold othK sother
  rw [decide_eq_true hc, Bool.and_true]
theorem Zhi (S : Nat → Bool) : PC C Zei [setD S] (fun o => o = .ret (setD (sother S))) := by
  show PC C Zei [setD S] (fun o => o = .ret (.agg (swL (sother S))))
  rw [← othK_end S]
  refine PC.rn ZdC Zf4 Zf5 (rs := [.cell 2 28]) (by rw [Zf6]) ?_
  refine ARun.seq (ARun.region ?_); refine zzb ?_
  refine y_new rfl (ZaN rfl rfl rfl rfl) ?_
  refine AOps.nil (ARun.seq (ARun.region ?_))
  refine y_new rfl (ZaN rfl rfl rfl rfl) ?_
  refine AOps.nil (ARun.seq (ARun.seq (ARun.region ?_))); refine zza ?_; refine AOps.nil (ARun.block ?_)
  refine ARun.loopI (S := Nat) (fun k : Nat => [(5, .any), (6, .any), (7, .any), (8, .any), (9, .any), (10, .any), (11, .any), (12, .any), (13, .any), (14, .any), (15, .any), (16, .any), (17, .any), (4, .int .i64 (k : Int))]) (fun k : Nat => [some ⟨[.int .u64 0, .int .u64 0, .int .u64 0, .int .u64 0], Zac, 1, true, none⟩, some ⟨swL (othK S k), Zac, 1, true, none⟩]) (fun k : Nat => 1 ≤ k ∧ k ≤ 256) (fun k : Nat => 256 - k) (1) ?_ ?_ ?_ ?_
  · exact ⟨Nat.le_refl _, by decide⟩
  · (repeat' first | exact envLe_nil | apply envLe_any | apply envLe_same)
  · rw [othK_one]
  rintro k hinv ih
  obtain ⟨i1, i2⟩ := hinv
  have hs := othK_succ S k i1
  refine ARun.seq (ARun.seq (ARun.region ?_)); refine zzm ?_; refine zzi ?_; refine AOps.nil ?_
  refine ARun.ite rfl (fun g => ?_) (fun g => ?_)
  · skip
    have g : k < 256 := by omega
    refine ARun.skip (ARun.seq (ARun.block (ARun.seq (ARun.region ?_)))); refine zzL ?_; refine zzm ?_
    refine y_op rfl (q_conv rfl rfl rfl (size_in g)) ?_
    refine zzc rfl rfl (ZaM S k g) ?_
    refine zzn ?_; refine AOps.nil ?_
    refine ARun.cond rfl (fun h => ?_) (fun h => ?_)
    · skip
      have h : S k = false := by simpa using h
      rw [h, cond_false] at hs
      refine ARun.region ?_
      refine y_op rfl (Zab rfl rfl rfl rfl rfl rfl) ?_
      refine zzm ?_
      refine y_op rfl (q_conv rfl rfl rfl (size_in g)) ?_
      refine zzc rfl rfl (ZhY (othK S k) k g) ?_
      refine y_new rfl (Zak rfl rfl rfl rfl rfl rfl rfl rfl (Nat.le_of_ble_eq_true rfl) rfl) ?_
      refine AOps.nil (ARun.inBlock (ARun.region ?_)); refine zzm ?_
      refine y_op rfl (q_add rfl rfl (nadd1_i64 (by omega))) ?_
      refine zza ?_; refine AOps.nil ?_
      refine ARun.again (ih (k + 1) ?_ ?_) ?_ ?_
      · exact ⟨by omega, g⟩
      · omega
      · (repeat' first | exact envLe_nil | apply envLe_any | apply envLe_same)
      (rw [hs]; rfl)
    have h : S k = true := by simpa using h
    rw [h, cond_true] at hs
    refine ARun.skip (ARun.inBlock (ARun.region ?_)); refine zzm ?_
    refine y_op rfl (q_add rfl rfl (nadd1_i64 (by omega))) ?_
    refine zza ?_; refine AOps.nil ?_
    refine ARun.again (ih (k + 1) ?_ ?_) ?_ ?_
    · exact ⟨by omega, g⟩
    · omega
    · (repeat' first | exact envLe_nil | apply envLe_any | apply envLe_same)
    rw [hs]
  obtain rfl : k = 256 := by omega
  refine ARun.exit rfl ?_
  refine ARun.seq (ARun.region ?_)
  refine y_op rfl (Zab rfl rfl rfl rfl rfl rfl) ?_
  refine y_new rfl (Zak rfl rfl rfl rfl rfl rfl rfl rfl (Nat.le_of_ble_eq_true rfl) rfl) ?_
  refine AOps.nil ?_
  refine ARun.ret ?_
  refine ⟨_, _, _, ResR.cellA rfl rfl rfl rfl rfl rfl .nil, .cons (.same _) .nil, rfl, ?_⟩
  rfl
def mid (S : Nat → Bool) (i : Nat) : Nat → Bool := fun c => if c / 64 < i then !S c else S c
theorem mid_zero (S : Nat → Bool) : mid S 0 = S := by
  funext c; unfold mid; rw [if_neg (by omega)]
theorem mid_set (S : Nat → Bool) {i : Nat} (h : i < 4) : (swL (mid S i)).set i (.int .u64 ((18446744073709551615 - sw (mid S i) i : Nat) : Int)) = swL (mid S (i + 1)) := by
  have hlt := sw_lt (mid S i) i
  refine swL_set h (by omega) (fun j hj => ?_) (fun c _ hne => ?_)
  · have := Nat.testBit_two_pow_sub_succ (n := 64) hlt j
    rw [show 2 ^ 64 - (sw (mid S i) i + 1) = 18446744073709551615 - sw (mid S i) i by omega] at this
    rw [this, decide_eq_true hj, Bool.true_and, sw_bit _ _ hj]
    unfold mid
    rw [if_neg (by omega), if_pos (by omega)]
  unfold mid
  by_cases e : c / 64 < i
  · rw [if_pos e, if_pos (by omega)]
  rw [if_neg e, if_neg (by omega)]
theorem andn_u64 {x : Nat} (hx : x < 18446744073709551616) : IntKind.u64.wrap (BitVec.ofInt IntKind.u64.bits (x : Int) &&& ~~~ BitVec.ofInt IntKind.u64.bits 1).toNat = ((x &&& 18446744073709551614 : Nat) : Int) := by
  rw [BitVec.toNat_and, ofInt_u64 hx, show (~~~ BitVec.ofInt IntKind.u64.bits 1).toNat = 18446744073709551614 from by decide]
  exact wrap_u64N (Nat.and_lt_two_pow (n := 64) _ (by decide))
theorem mid_end (S : Nat → Bool) : (swL (mid S 4)).set 0 (.int .u64 ((sw (mid S 4) 0 &&& 18446744073709551614 : Nat) : Int)) = swL (sother S) := by
  refine swL_set (by decide) (Nat.and_lt_two_pow (n := 64) _ (by decide)) (fun j hj => ?_) (fun c hc hne => ?_)
  · have h := Nat.testBit_two_pow_sub_succ (n := 64) (x := 1) (by decide) j
    rw [show 2 ^ 64 - (1 + 1) = 18446744073709551614 by decide] at h
    have h1 : Nat.testBit 1 j = decide (j = 0) := by rw [Bool.eq_iff_iff, Nat.testBit_one_eq_true_iff_self_eq_zero, decide_eq_true_eq]
    rw [Nat.testBit_and, h, sw_bit _ _ hj, decide_eq_true hj, Bool.true_and, h1]
    unfold mid sother
    rw [if_pos (by omega), ← decide_not]
    congr 1
    exact decide_eq_decide.2 (by omega)
  unfold mid sother
  rw [if_pos (by omega), decide_eq_true (by omega), Bool.and_true]
theorem Zfb (S : Nat → Bool) : PC C Zd2 [setD S] (fun o => o = .ret (setD (sother S))) := by
  refine PC.rn ZbR Zdz ZdA (rs := [.cell 2 28]) (by rw [ZdB]) ?_
  refine ARun.seq (ARun.region ?_)
  refine y_new rfl (n_box rfl rfl rfl) ?_
  refine y_new rfl (ZaN rfl rfl rfl rfl) ?_
  refine AOps.nil (ARun.seq (ARun.seq (ARun.region ?_))); refine zzm ?_; refine AOps.nil (ARun.block ?_)
  refine ARun.loopI (S := Nat) (fun i : Nat => [(3, .any), (5, .any), (6, .any), (7, .any), (8, .any), (9, .any), (10, .any), (11, .any), (12, .any), (13, .any), (4, .int .i64 (i : Int))]) (fun i : Nat => [some ⟨swL (mid S i), Zac, 1, true, none⟩, some ⟨[.int .u64 0, .int .u64 0, .int .u64 0, .int .u64 0], Zac, 1, true, none⟩]) (fun i : Nat => i ≤ 4) (fun i : Nat => 4 - i) (0) ?_ ?_ ?_ ?_
  · exact Nat.zero_le _
  · (repeat' first | exact envLe_nil | apply envLe_any | apply envLe_same)
  · rw [mid_zero]
  rintro i hinv ih
  refine ARun.seq (ARun.region ?_); refine zzi ?_; refine AOps.nil (ARun.seq ?_)
  refine ARun.ite rfl (fun g => ?_) (fun g => ?_)
  · skip
    have g : i < 4 := by omega
    refine ARun.skip (ARun.seq (ARun.block (ARun.seq (ARun.region ?_)))); refine zzm ?_; refine zza ?_; refine AOps.nil (ARun.region ?_); refine zzm ?_; refine zzm ?_
    refine y_op rfl (Za8 (j := i) rfl rfl rfl rfl (by omega) (by omega) (show 0 + ((i : Nat) : Int).toNat * 1 = i by rw [Int.toNat_natCast]; omega)) ?_
    refine y_op rfl (Zaa rfl rfl rfl rfl (swL_get (mid S i) i g)) ?_
    refine y_op rfl (ZiL rfl (compl_u64 (sw_lt (mid S i) i))) ?_
    refine y_op rfl (Za8 (j := i) rfl rfl rfl rfl (by omega) (by omega) (show 0 + ((i : Nat) : Int).toNat * 1 = i by rw [Int.toNat_natCast]; omega)) ?_
    refine y_new rfl (Zad (cs := swL (mid S (i + 1))) rfl rfl rfl rfl rfl rfl (show i < 4 from g) (mid_set S g)) ?_
    refine AOps.nil (ARun.inBlock (ARun.region ?_))
    refine y_op rfl (q_add rfl rfl (nadd1_i64 (by omega))) ?_
    refine zzm ?_; refine AOps.nil ?_
    refine ARun.again (ih (i + 1) ?_ ?_) ?_ ?_
    · exact g
    · omega
    · (repeat' first | exact envLe_nil | apply envLe_any | apply envLe_same)
    rfl
  obtain rfl : i = 4 := by omega
  refine ARun.exit rfl ?_
  refine ARun.seq (ARun.region ?_)
  refine y_op rfl (Za8 rfl rfl rfl rfl (by omega) (by omega) rfl) ?_
  refine y_op rfl (Zaa rfl rfl rfl rfl (swL_get (mid S 4) 0 (by decide))) ?_
  refine y_op rfl (OpQ.cast (q_int rfl rfl rfl) (congrArg (D.int .u64) (andn_u64 (sw_lt (mid S 4) 0)))) ?_
  refine y_op rfl (Za8 rfl rfl rfl rfl (by omega) (by omega) rfl) ?_
  refine y_new rfl (Zad (cs := swL (sother S)) rfl rfl rfl rfl rfl rfl (show 0 < 4 by decide) (mid_end S)) ?_
  refine AOps.nil (ARun.seq (ARun.region ?_))
  refine y_op rfl (Zab rfl rfl rfl rfl rfl rfl) ?_
  refine y_new rfl (Zak rfl rfl rfl rfl rfl rfl rfl rfl (Nat.le_of_ble_eq_true rfl) rfl) ?_
  refine AOps.nil ?_
  refine ARun.ret ?_
  refine ⟨_, _, _, ResR.cellA rfl rfl rfl rfl rfl rfl .nil, .cons (.same _) .nil, rfl, ?_⟩
  rfl
end Go.V
/- strings.IndexByte: the library's contract, laid at this seat's numbers. -/
set_option maxRecDepth 100000
set_option maxHeartbeats 1000000
namespace Go.V
open Go.Shelf Go.RowKit Go.Proofs
def bRen217 : Ren := ⟨fun | 217 => 67 | 266 => 87 | n => n, fun | 3 => 3 | 5 => 5 | 9 => 9 | n => n, fun n => n⟩
theorem bLay217 : Lays.n217 Tryd.prog bRen217 := {
  mixed := by kernel_rfl
  f217 := Tryd.func67.trans (congrArg some (by kernel_rfl))
  f266 := Tryd.func87.trans (congrArg some (by kernel_rfl))
  t3 := Tryd.underlying3
  a3 := Tryd.isAgg3
  z3 := Tryd.sizeOf3
  v3 := Tryd.zeroValue3
  t5 := Tryd.underlying5
  a5 := Tryd.isAgg5
  z5 := Tryd.sizeOf5
  v5 := Tryd.zeroValue5
  t9 := Tryd.underlying9
  a9 := Tryd.isAgg9
  z9 := Tryd.sizeOf9
  v9 := Tryd.zeroValue9 }
theorem below_same (w : World) : Below w.heap.size w w := by
  refine ⟨?_, ?_, ?_, ?_, ?_⟩
  all_goals first | rfl | exact Nat.le_refl _ | (intros; rfl) | (intros; assumption)
theorem Zfc (s : ByteArray) (c : Int) : PC C Zcq [.str s, .int .u8 c] (fun o => o = .ret (.int .i64 (Lib.indexByte s.data.toList c.toNat.toUInt8))) := by
  refine PC.of_below (v := .int .i64 (Lib.indexByte s.data.toList c.toNat.toUInt8)) Zce (fun _ _ _ _ => by simp only [VR]) (fun w L μ H vs ha => ?_)
  simp only [VRs, VR] at ha
  obtain ⟨_, _, rfl, rfl, _, _, rfl, rfl, rfl⟩ := ha
  exact (Any.stringslite_IndexByte bLay217 s c w).mono fun e w' ⟨h1, h2⟩ => ⟨h1, by rw [h2]; exact below_same w⟩
end Go.V
set_option maxHeartbeats 4000000
set_option maxRecDepth 100000
set_option synthInstance.maxSize 100000
set_option synthInstance.maxHeartbeats 2000000
namespace Go.V
open Go.RowKit Go.Proofs
theorem ixB_nn : ∀ (l : List UInt8) (c : UInt8), Lib.indexByte l c ≥ 0 ↔ c ∈ l
  | [], c => by simp [Lib.indexByte]
  | b :: l, c => by
    have ih := ixB_nn l c
    unfold Lib.indexByte
    by_cases h : b = c
    · subst h; simp
    have h1 : (b == c) = false := beq_eq_false_iff_ne.2 h
    rw [h1]
    simp only [Bool.false_eq_true, if_false, List.mem_cons]
    have hne : ¬ c = b := fun e => h e.symm
    simp only [hne, false_or]
    by_cases h2 : (Lib.indexByte l c == -1) = true
    · rw [if_pos h2]
      have := eq_of_beq h2
      rw [← ih]; omega
    rw [if_neg h2]
    have h3 : ¬ Lib.indexByte l c = -1 := fun e => h2 (by rw [e]; rfl)
    rw [← ih]
    have h4 : -1 ≤ Lib.indexByte l c := by
      clear ih h2 h3
      induction l with
      | nil => unfold Lib.indexByte; omega
      | cons d l ih => unfold Lib.indexByte; split; omega; split; omega; omega
    omega
theorem mem_sby (s : ByteArray) (c : Nat) (h : c < 256) : c.toUInt8 ∈ s.data.toList ↔ c ∈ sby s := by
  have e : (c.toUInt8).toNat = c := by show (UInt8.ofNat c).toNat = c; rw [UInt8.toNat_ofNat']; omega
  unfold sby
  rw [List.mem_map]
  constructor
  · exact fun h => ⟨_, h, e⟩
  rintro ⟨x, hx, he⟩
  have : x = c.toUInt8 := UInt8.toNat_inj.1 (he.trans e.symm)
  rw [← this]; exact hx
theorem Zct (s : ByteArray) (c : Nat) : PC C Zdp [.str s, .int .u8 (c : Int)] (fun o => o = .ret (.int .i64 (Lib.indexByte s.data.toList c.toUInt8))) := by
  refine PC.rn Zbu Zc0 Zc1 (rs := [.tmp 4]) (by rw [Zc2]) ?_
  refine ARun.seq (ARun.region ?_); refine zza ?_; refine AOps.nil (ARun.seq (ARun.region ?_)); refine zzm ?_; refine zzm ?_
  refine zzc rfl rfl (Zfc s c) ?_
  refine zza ?_; refine AOps.nil ?_
  refine ARun.ret ?_
  refine ⟨_, _, _, .tmp rfl .nil, .cons (.same _) .nil, rfl, ?_⟩
  rfl
theorem ix_ge {s : ByteArray} {c : Nat} (h : c < 256) : decide (Lib.indexByte s.data.toList c.toUInt8 ≥ 0) = decide (c ∈ sby s) := decide_eq_decide.2 ((ixB_nn _ _).trans (mem_sby s c h))
theorem str_eq (s t : ByteArray) : (s.toList == t.toList) = decide (sby s = sby t) := by
  rw [ByteArray.toList_eq, ByteArray.toList_eq, Bool.eq_iff_iff, beq_iff_eq, decide_eq_true_eq]
  constructor
  · intro h; unfold sby; rw [h]
  intro h
  have hm : ∀ x : ByteArray, x.data.toList = (sby x).map UInt8.ofNat := fun x => by
    unfold sby
    rw [List.map_map]
    conv => lhs; rw [← List.map_id x.data.toList]
    apply List.map_congr_left
    intro c _
    show c = UInt8.ofNat c.toNat
    rw [UInt8.ofNat_toNat]
  rw [hm s, hm t, h]
theorem sby_pre (s : ByteArray) {n : Nat} (h : n ≤ s.size) : sby (s.extract 0 n) = (sby s).take n := by
  have := sby_cut (s := s) (i := 0) (n := n) (by omega)
  rw [Nat.zero_add, List.drop_zero] at this
  exact this
theorem sby_suf (s : ByteArray) {n : Nat} (h : n ≤ s.size) : sby (s.extract n s.size) = (sby s).drop n := by
  have := sby_cut (s := s) (i := n) (n := s.size - n) (by omega)
  rw [show n + (s.size - n) = s.size by omega, List.take_of_length_le (by rw [List.length_drop, sby_len]; exact Nat.le_refl _)] at this
  exact this
def isPre (s p : ByteArray) : Bool := decide ((sby s).take p.size = sby p)
theorem ZdP (s p : ByteArray) (hs : s.size ≤ 100000) (hp : p.size ≤ 100000) : PC C Zcs [.str s, .str p] (fun o => o = .ret (.bool (isPre s p))) := by
  refine PC.rn Za5 Zck Zcl (rs := [.tmp 4]) (by rw [Zcm]) ?_
  refine ARun.seq (ARun.region ?_); refine zza ?_; refine AOps.nil (ARun.seq (ARun.region ?_)); refine zzm ?_
  refine y_op rfl (Zag rfl rfl) ?_
  refine zzm ?_
  refine y_op rfl (Zag rfl rfl) ?_
  refine zzi ?_; refine zzm ?_
  refine AOps.bool 10 rfl (fun g => ?_) (fun g => ?_)
  · skip
    have g : p.size ≤ s.size := by have := of_decide_eq_true g; omega
    refine zzm ?_; refine zzm ?_
    refine y_op rfl (Zag rfl rfl) ?_
    refine y_op rfl (Zbj (lo := 0) (hi := p.size) rfl rfl rfl (bnd_nat rfl rfl) (Nat.zero_le _) g) ?_
    refine zzm ?_
    refine y_op rfl (OpQ.cast (ZeM rfl rfl) (congrArg D.bool (show _ = isPre s p by rw [str_eq, sby_pre s g]; rfl))) ?_
    refine zzp ?_; refine zza ?_; refine AOps.nil ?_
    refine ARun.ret ?_
    refine ⟨_, _, _, .tmp rfl .nil, .cons (.same _) .nil, rfl, ?_⟩
    rfl
  have g : ¬ p.size ≤ s.size := by have := of_decide_eq_false g; omega
  have hf : isPre s p = false := decide_eq_false (fun h => by
    have := congrArg List.length h
    rw [List.length_take, sby_len, sby_len] at this
    omega)
  rw [hf]
  refine zzk ?_; refine zzk ?_; refine zzk ?_; refine zzk ?_; refine zzk ?_; refine zzk ?_; refine zzp ?_; refine zza ?_; refine AOps.nil ?_
  refine ARun.ret ?_
  refine ⟨_, _, _, .tmp rfl .nil, .cons (.same _) .nil, rfl, ?_⟩
  rfl
def cutR (s p : ByteArray) : ByteArray := bif isPre s p then s.extract p.size s.size else s
theorem Zgf (s p : ByteArray) (hs : s.size ≤ 100000) (hp : p.size ≤ 100000) : PC C Zcp [.str s, .str p] (fun o => o = .ret (.tup [.str (cutR s p), .bool (isPre s p)])) := by
  unfold cutR
  refine PC.rn Za3 Zca Zcb (rs := [.tmp 4, .tmp 5]) (by rw [Zcc]) ?_
  refine ARun.seq (ARun.region ?_); refine zza ?_; refine zza ?_; refine AOps.nil (ARun.seq (ARun.seq (ARun.region ?_))); refine zzm ?_; refine zzm ?_
  refine zzc rfl rfl (ZdP s p hs hp) ?_
  refine zzn ?_; refine AOps.nil ?_
  refine ARun.cond rfl (fun h => ?_) (fun h => ?_)
  · skip
    have h : isPre s p = false := by simpa using h
    rw [h]
    refine ARun.seq (ARun.region ?_); refine zzm ?_; refine zza ?_; refine zza ?_; refine AOps.nil ?_
    refine ARun.ret ?_
    refine ⟨_, _, _, .tmp rfl (.tmp rfl .nil), .cons (.same _) (.cons (.same _) .nil), rfl, ?_⟩
    rfl
  have h : isPre s p = true := by simpa using h
  have hle : p.size ≤ s.size := by
    have := congrArg List.length (of_decide_eq_true h)
    rw [List.length_take, sby_len, sby_len] at this
    omega
  rw [h]
  refine ARun.skip (ARun.seq (ARun.region ?_)); refine zzm ?_; refine zzm ?_
  refine y_op rfl (Zag rfl rfl) ?_
  refine y_op rfl (Zbj (lo := p.size) (hi := s.size) rfl rfl (bnd_nat rfl rfl) rfl hle (Nat.le_refl _)) ?_
  refine zza ?_; refine zza ?_; refine AOps.nil ?_
  refine ARun.ret ?_
  refine ⟨_, _, _, .tmp rfl (.tmp rfl .nil), .cons (.same _) (.cons (.same _) .nil), rfl, ?_⟩
  rfl
theorem ZgD (s p : ByteArray) (hs : s.size ≤ 100000) (hp : p.size ≤ 100000) : PC C Zdo [.str s, .str p] (fun o => o = .ret (.tup [.str (cutR s p), .bool (isPre s p)])) := by
  refine PC.rn Zbt ZcX ZcY (rs := [.tmp 4, .tmp 5]) (by rw [ZcZ]) ?_
  refine ARun.seq (ARun.region ?_); refine zza ?_; refine zza ?_; refine AOps.nil (ARun.seq (ARun.region ?_)); refine zzm ?_; refine zzm ?_
  refine zzc rfl rfl (Zgf s p hs hp) ?_
  refine zze ?_; refine zze ?_; refine zza ?_; refine zza ?_; refine AOps.nil ?_
  refine ARun.ret ?_
  refine ⟨_, _, _, .tmp rfl (.tmp rfl .nil), .cons (.same _) (.cons (.same _) .nil), rfl, ?_⟩
  rfl
theorem ZgE (s p : ByteArray) (hs : s.size ≤ 100000) (hp : p.size ≤ 100000) : PC C Zdt [.str s, .str p] (fun o => o = .ret (.bool (isPre s p))) := by
  refine PC.rn Zby Zc3 Zc4 (rs := [.tmp 4]) (by rw [Zc5]) ?_
  refine ARun.seq (ARun.region ?_); refine zza ?_; refine AOps.nil (ARun.seq (ARun.region ?_)); refine zzm ?_; refine zzm ?_
  refine zzc rfl rfl (ZdP s p hs hp) ?_
  refine zza ?_; refine AOps.nil ?_
  refine ARun.ret ?_
  refine ⟨_, _, _, .tmp rfl .nil, .cons (.same _) .nil, rfl, ?_⟩
  rfl
end Go.V
set_option maxHeartbeats 8000000
set_option maxRecDepth 100000
set_option synthInstance.maxSize 100000
set_option synthInstance.maxHeartbeats 2000000
namespace Go.V
open Go.RowKit Go.Proofs
def sr (S : Nat → Bool) (lo k : Nat) : Nat → Bool := fun x => S x || (decide (lo ≤ x) && decide (x < k))
theorem sr_zero (S : Nat → Bool) (lo : Nat) : sr S lo lo = S := by
  funext x; unfold sr
  rw [show (decide (lo ≤ x) && decide (x < lo)) = false by rw [← Bool.decide_and]; exact decide_eq_false (by omega), Bool.or_false]
theorem sr_succ (S : Nat → Bool) {lo k : Nat} (h : lo ≤ k) : swith (sr S lo k) k = sr S lo (k + 1) := by
  funext x; unfold sr swith
  rw [Bool.or_assoc]
  congr 1
  rw [← Bool.decide_and, ← Bool.decide_and, ← Bool.decide_or]
  exact decide_eq_decide.2 (by omega)
def sempty : Nat → Bool := fun _ => false
theorem swL_empty : swL sempty = [.int .u64 0, .int .u64 0, .int .u64 0, .int .u64 0] := by
  have e : ∀ i, sw sempty i = 0 := fun i => (sw_ext (x := 0) (by decide) fun j _ => by rw [Nat.zero_testBit]; rfl).symm
  unfold swL
  rw [e, e, e, e]; rfl
def rdI : (Nat → Bool) → List Nat → Option (Nat → Bool)
  | S, [] => some S
  | S, a :: c :: b :: r => if c = 45 then (if b < a then none else rdI (sr S a (b + 1)) r) else rdI (sr S a (a + 1)) (c :: b :: r)
  | S, [a, b] => rdI (sr S a (a + 1)) [b]
  | S, [a] => rdI (sr S a (a + 1)) []
theorem rd_end {s : ByteArray} {i : Nat} (S : Nat → Bool) (h : s.size ≤ i) : rdI S ((sby s).drop i) = some S := by rw [drop_end h, rdI]
theorem rd_rng {s : ByteArray} {i : Nat} (S : Nat → Bool) (h : i + 2 < s.size) (hc : (sby s).getD (i + 1) 0 = 45) : rdI S ((sby s).drop i) = if (sby s).getD (i + 2) 0 < (sby s).getD i 0 then none else rdI (sr S ((sby s).getD i 0) ((sby s).getD (i + 2) 0 + 1)) ((sby s).drop (i + 3)) := by
  rw [drop_at (p := i) (by omega), drop_at (p := i + 1) (by omega), drop_at (p := i + 2) h, rdI, if_pos hc]
theorem rd_one {s : ByteArray} {i : Nat} (S : Nat → Bool) (h : i < s.size) (hc : ¬ (i + 2 < s.size ∧ (sby s).getD (i + 1) 0 = 45)) : rdI S ((sby s).drop i) = rdI (sr S ((sby s).getD i 0) ((sby s).getD i 0 + 1)) ((sby s).drop (i + 1)) := by
  rcases Nat.lt_or_ge (i + 2) s.size with g | g
  · rw [drop_at (p := i) (by omega), drop_at (p := i + 1) (by omega), drop_at (p := i + 2) g, rdI, if_neg (fun h => hc ⟨g, h⟩)]
  rcases Nat.lt_or_ge (i + 1) s.size with g2 | g2
  · rw [drop_at (p := i) (by omega), drop_at (p := i + 1) g2, drop_end (p := i + 1 + 1) (by omega), rdI]
  rw [drop_at (p := i) h, drop_end (p := i + 1) (by omega), rdI, rdI, rdI]
def rdBad (l : List Nat) : Bool := (decide (l = []) || decide (0 ∈ l)) || decide (93 ∈ l.drop 1)
noncomputable def readR (neg : Bool) (l : List Nat) : (Nat → Bool) × Int := bif rdBad l then (sempty, 6) else match rdI sempty l with
  | none => (sempty, 6)
  | some S => (bif neg then sother S else S, 0)
abbrev sCaret : ByteArray := ⟨#[94]⟩
noncomputable def readS (s : ByteArray) : (Nat → Bool) × Int := if 2000 < s.size then (sempty, 2) else readR (isPre s sCaret) (sby (cutR s sCaret))
theorem readR_bad {neg : Bool} {l : List Nat} (h : rdBad l = true) : readR neg l = (sempty, 6) := by unfold readR; rw [h]; rfl
theorem readR_none {neg : Bool} {l : List Nat} (h : rdBad l = false) (h2 : rdI sempty l = none) : readR neg l = (sempty, 6) := by unfold readR; rw [h, h2]; rfl
theorem readR_some {neg : Bool} {l : List Nat} {S : Nat → Bool} (h : rdBad l = false) (h2 : rdI sempty l = some S) : readR neg l = (bif neg then sother S else S, 0) := by unfold readR; rw [h, h2]; rfl
theorem size_of_ne {s : ByteArray} {b : Bool} (h : (decide (sby s = []) || b) = false) : 1 ≤ s.size := by
  rw [Bool.or_eq_false_iff] at h
  have h1 := of_decide_eq_false h.1
  rcases Nat.eq_zero_or_pos s.size with g | g
  · exfalso; apply h1; apply List.eq_nil_of_length_eq_zero; rw [sby_len]; exact g
  exact g
theorem cut_size (s : ByteArray) : (cutR s sCaret).size ≤ s.size := by
  unfold cutR
  cases isPre s sCaret
  · exact Nat.le_refl _
  show (s.extract 1 s.size).size ≤ _
  rw [ByteArray.size_extract]; omega
theorem Zbm (s : ByteArray) : PC C ZbL [.str s] (fun o => o = .ret (.tup [setD (readS s).1, .int .i64 (readS s).2])) := by
  unfold readS
  refine PC.rn ZbC Zdf Zdg (rs := [.cell 2 28, .tmp 3]) (by rw [Zdh]) ?_
  refine ARun.seq (ARun.region ?_)
  refine y_new rfl (ZaN rfl rfl rfl rfl) ?_
  refine zza ?_; refine AOps.nil (ARun.seq (ARun.seq (ARun.region ?_))); refine zzm ?_
  refine y_op rfl (Zag rfl rfl) ?_
  refine zzi ?_; refine AOps.nil ?_
  refine ARun.ite rfl (fun g => ?_) (fun g => ?_)
  · skip
    rw [if_pos (show 2000 < s.size by omega)]
    show ARun C (QFin C _ (fun o _ => o.pure = true ∧ o = .ret (.tup [.agg (swL sempty), .int .i64 2]))) _ _ _ _
    rw [swL_empty]
    refine ARun.seq (ARun.region ?_)
    refine y_op rfl (ZaW rfl rfl rfl) ?_
    refine y_new rfl (Zak rfl rfl rfl rfl rfl rfl rfl rfl (Nat.le_of_ble_eq_true rfl) rfl) ?_
    refine zza ?_; refine AOps.nil ?_
    refine ARun.ret ?_
    refine ⟨_, _, _, ResR.cellA rfl rfl rfl rfl rfl rfl (.tmp rfl .nil), .cons (.same _) (.cons (.same _) .nil), rfl, ?_⟩
    rfl
  rw [if_neg (show ¬ 2000 < s.size by omega)]
  have hcs := cut_size s
  have hs2 : s.size ≤ 2000 := by omega
  refine ARun.skip (ARun.seq (ARun.region ?_)); refine zzm ?_
  refine zzc rfl rfl (ZgD s sCaret (by omega) (by decide)) ?_
  refine zzm ?_; refine zze ?_; refine zze ?_; refine zza ?_; refine zza ?_
  generalize cutR s sCaret = s1 at *
  generalize isPre s sCaret = neg at *
  have hl1 := sby_len s1
  refine AOps.nil (ARun.seq (ARun.seq (ARun.region ?_))); refine zzm ?_
  refine y_op rfl (OpQ.cast (ZeM rfl rfl) (congrArg D.bool (show _ = decide (sby s1 = []) by rw [str_eq]; rfl))) ?_
  refine zzm ?_
  apply AOps.orJ 20 (fun sj1 => [(20, .any), (21, .any), (22, .any), (23, .any), (24, .bool sj1)]) rfl
  · intro hj1 run1
    try replace hj1 := of_decide_eq_true hj1
    refine zzk ?_; refine zzk ?_; refine zzk ?_; refine zzp ?_
    exact AOps.ag run1
  · intro hj1 run1
    try replace hj1 := of_decide_eq_false hj1
    refine zzm ?_
    refine zzc rfl rfl (Zct s1 0) ?_
    refine y_op rfl (OpQ.cast (q_int rfl rfl rfl) (congrArg D.bool (show _ = decide (0 ∈ sby s1) from ix_ge (by decide)))) ?_
    refine zzp ?_
    exact AOps.ag run1
  refine zzm ?_
  apply AOps.orJ 25 (fun sj2 => [(25, .any), (26, .any), (27, .any), (28, .any), (29, .any), (30, .bool sj2)]) rfl
  · intro hj2 run2
    try replace hj2 := of_decide_eq_true hj2
    try have hz1 := size_of_ne hj2
    refine zzk ?_; refine zzk ?_; refine zzk ?_; refine zzk ?_; refine zzp ?_
    exact AOps.ag run2
  · intro hj2 run2
    try replace hj2 := of_decide_eq_false hj2
    try have hz1 := size_of_ne hj2
    refine zzm ?_
    refine y_op rfl (Zbj (lo := 1) (hi := s1.size) rfl rfl (bnd_nat (n := 1) rfl rfl) rfl (by assumption) (Nat.le_refl _)) ?_
    refine zzc rfl rfl (Zct (s1.extract 1 s1.size) 93) ?_
    refine y_op rfl (OpQ.cast (q_int rfl rfl rfl) (congrArg D.bool (show _ = decide (93 ∈ (sby s1).drop 1) by rw [← sby_suf s1 (by assumption)]; exact ix_ge (by decide)))) ?_
    refine zzp ?_
    exact AOps.ag run2
  refine AOps.nil ?_
  refine ARun.cond rfl (fun hbad => ?_) (fun hbad => ?_)
  · skip
    rw [readR_bad hbad]
    show ARun C (QFin C _ (fun o _ => o.pure = true ∧ o = .ret (.tup [.agg (swL sempty), .int .i64 6]))) _ _ _ _
    rw [swL_empty]
    refine ARun.seq (ARun.region ?_)
    refine y_op rfl (ZaW rfl rfl rfl) ?_
    refine y_new rfl (Zak rfl rfl rfl rfl rfl rfl rfl rfl (Nat.le_of_ble_eq_true rfl) rfl) ?_
    refine zza ?_; refine AOps.nil ?_
    refine ARun.ret ?_
    refine ⟨_, _, _, ResR.cellA rfl rfl rfl rfl rfl rfl (.tmp rfl .nil), .cons (.same _) (.cons (.same _) .nil), rfl, ?_⟩
    rfl
  have hbad : rdBad (sby s1) = false := hbad
  refine ARun.skip (ARun.seq (ARun.seq (ARun.region ?_))); refine zza ?_; refine AOps.nil (ARun.block ?_)
  refine ARun.loopI (S := Nat × (Nat → Bool)) (fun σ : Nat × (Nat → Bool) => [(3, .any), (5, .int .i64 (σ.1 : Int)), (6, .any), (7, .any), (8, .any), (32, .any), (33, .any), (34, .any), (35, .any), (36, .any), (37, .any), (38, .any), (39, .any), (40, .any), (41, .any), (42, .any), (43, .any), (44, .any), (45, .any), (46, .any), (47, .any), (48, .any), (49, .any), (50, .any), (51, .any), (52, .any), (53, .any), (54, .any), (55, .any), (56, .any), (57, .any), (58, .any), (59, .any), (60, .any), (61, .any), (62, .any), (63, .any), (64, .any), (65, .any), (66, .any), (67, .any), (68, .any), (69, .any), (70, .any), (71, .any), (72, .any), (73, .any), (74, .any), (75, .any), (76, .any), (77, .any)]) (fun σ : Nat × (Nat → Bool) => [some ⟨swL σ.2, Zac, 1, true, none⟩]) (fun σ : Nat × (Nat → Bool) => σ.1 ≤ s1.size ∧ rdI sempty (sby s1) = rdI σ.2 ((sby s1).drop σ.1)) (fun σ : Nat × (Nat → Bool) => s1.size - σ.1) ((0, sempty)) ?_ ?_ ?_ ?_
  · exact ⟨Nat.zero_le _, rfl⟩
  · (repeat' first | exact envLe_nil | apply envLe_any | apply envLe_same)
  · (rw [swL_empty])
  rintro ⟨i, S⟩ hinv ih
  dsimp only at hinv ih ⊢
  obtain ⟨i1, i2⟩ := hinv
  refine ARun.seq (ARun.seq (ARun.region ?_)); refine zzm ?_; refine zzm ?_
  refine y_op rfl (Zag rfl rfl) ?_
  refine zzi ?_; refine AOps.nil ?_
  refine ARun.ite rfl (fun g1 => ?_) (fun g1 => ?_)
  · skip
    have g1 : i < s1.size := by omega
    have hb := sby_lt (s := s1) i
    refine ARun.skip (ARun.seq (ARun.block (ARun.seq ?_)))
    refine ARun.drawnP 7 (fun _ => False) mixC rfl rfl (by kernel_rfl) (fun _ _ h => h.elim) ?_
    refine .op rfl (q_move rfl) ?_
    refine .op rfl (q_move rfl) ?_
    refine .op rfl (Zai rfl rfl rfl (by omega) (by omega) (sby_get _)) ?_
    refine .op rfl (q_move rfl) ?_
    refine .op rfl (q_move rfl) ?_
    refine .op rfl (Zai rfl rfl rfl (by omega) (by omega) (sby_get _)) ?_
    refine .op rfl (ZfS rfl) ?_
    refine .nil (fun hG => ?_)
    refine zza ?_; refine AOps.nil (ARun.seq (ARun.seq (ARun.region ?_))); refine zzm ?_
    refine y_op rfl (q_add rfl rfl (nadd1_i64 (by omega))) ?_
    refine zzm ?_
    refine y_op rfl (Zag rfl rfl) ?_
    refine y_op rfl (OpQ.cast (d' := .bool (decide (i + 2 < s1.size))) (q_int rfl rfl rfl) (congrArg D.bool (decide_eq_decide.2 (by omega)))) ?_
    refine zzm ?_
    apply AOps.andJ 49 (fun sj3 => [(49, .any), (50, .any), (51, .any), (52, .any), (53, .any), (54, .any), (55, .bool sj3)]) rfl
    · intro hj3 run3
      try replace hj3 := of_decide_eq_true hj3
      refine zzm ?_; refine zzm ?_
      refine y_op rfl (q_add rfl rfl (nadd1_i64 (by omega))) ?_
      refine y_op rfl (Zai rfl rfl rfl (by omega) (by omega) (sby_get (i := i + 1) _)) ?_
      refine y_op rfl (OpQ.cast (q_int rfl rfl rfl) (congrArg D.bool (int_dec (m := 45) rfl))) ?_
      refine zzp ?_
      exact AOps.ag run3
    · intro hj3 run3
      try replace hj3 := of_decide_eq_false hj3
      refine zzk ?_; refine zzk ?_; refine zzk ?_; refine zzk ?_; refine zzk ?_; refine zzp ?_
      exact AOps.ag run3
    refine AOps.nil ?_
    refine ARun.join (S := Nat × Nat) (fun σ : Nat × Nat => [(5, .int .i64 ((i + σ.2 : Nat) : Int)), (7, .int .u8 (σ.1 : Int)), (56, .any), (57, .any), (58, .any), (59, .any), (60, .any), (61, .any)]) (fun σ : Nat × Nat => σ.1 < 256 ∧ (σ.2 = 2 ∧ i + 2 < s1.size ∧ (sby s1).getD (i + 1) 0 = 45 ∧ σ.1 = (sby s1).getD (i + 2) 0 ∨ σ.2 = 0 ∧ ¬ (i + 2 < s1.size ∧ (sby s1).getD (i + 1) 0 = 45) ∧ σ.1 = (sby s1).getD i 0)) (fun run => ?_) ?_
    · skip
      refine ARun.cond rfl (fun q => ?_) (fun q => ?_)
      · skip
        rw [Bool.and_eq_true, decide_eq_true_eq, decide_eq_true_eq] at q
        refine ARun.seq (ARun.region ?_); refine zzm ?_; refine zzm ?_
        refine y_op rfl (q_add rfl rfl (nadd1_i64 (by omega))) ?_
        refine y_op rfl (Zai rfl rfl rfl (by omega) (by omega) (sby_get (i := i + 2) _)) ?_
        refine zza ?_; refine AOps.nil (ARun.region ?_); refine zzm ?_
        refine y_op rfl (q_add rfl rfl (nadd1_i64 (by omega))) ?_
        refine zza ?_; refine AOps.nil ?_
        exact ARun.ag (run (((sby s1).getD (i + 2) 0, 2)) (⟨sby_lt _, .inl ⟨rfl, q.1, q.2, rfl⟩⟩))
      have q : ¬ (i + 2 < s1.size ∧ (sby s1).getD (i + 1) 0 = 45) := by
        rintro ⟨h1, h2⟩
        rw [decide_eq_true h1, decide_eq_true h2] at q; cases q
      refine ARun.skip ?_
      exact ARun.ag (run (((sby s1).getD i 0, 0)) (⟨hb, .inr ⟨rfl, q, rfl⟩⟩))
    rintro ⟨hi, dd⟩ hj
    try dsimp only at hj ⊢
    obtain ⟨hhi, hcase⟩ := hj
    refine ARun.seq (ARun.seq (ARun.region ?_)); refine zzm ?_; refine zzm ?_; refine zzi ?_; refine AOps.nil ?_
    refine ARun.ite rfl (fun w => ?_) (fun w => ?_)
    · skip
      have w : hi < (sby s1).getD i 0 := by omega
      have hn : rdI sempty (sby s1) = none := by
        rcases hcase with ⟨_, h1, h2, h3⟩ | ⟨_, _, h3⟩
        · rw [i2, rd_rng S h1 h2, if_pos (by omega)]
        omega
      rw [readR_none hbad hn]
      show ARun C (QFin C _ (fun o _ => o.pure = true ∧ o = .ret (.tup [.agg (swL sempty), .int .i64 6]))) _ _ _ _
      rw [swL_empty]
      refine ARun.seq (ARun.region ?_)
      refine y_op rfl (ZaW rfl rfl rfl) ?_
      refine y_new rfl (Zak rfl rfl rfl rfl rfl rfl rfl rfl (Nat.le_of_ble_eq_true rfl) rfl) ?_
      refine zza ?_; refine AOps.nil ?_
      refine ARun.ret ?_
      refine ⟨_, _, _, ResR.cellA rfl rfl rfl rfl rfl rfl (.tmp rfl .nil), .cons (.same _) (.cons (.same _) .nil), rfl, ?_⟩
      rfl
    have w : (sby s1).getD i 0 ≤ hi := by omega
    have hnext : rdI sempty (sby s1) = rdI (sr S ((sby s1).getD i 0) (hi + 1)) ((sby s1).drop (i + dd + 1)) ∧ i + dd + 1 ≤ s1.size := by
      rcases hcase with ⟨rfl, h1, h2, h3⟩ | ⟨rfl, h2, h3⟩
      · rw [i2, rd_rng S h1 h2, if_neg (by omega), h3]; exact ⟨rfl, by omega⟩
      rw [i2, rd_one S g1 h2, h3]; exact ⟨rfl, g1⟩
    generalize (sby s1).getD i 0 = lo at *
    refine ARun.skip (ARun.seq (ARun.region ?_)); refine zzm ?_
    refine y_op rfl (q_conv rfl rfl rfl (show _ = (lo : Int) by rw [IntWalk.i64_in _ (by omega)])) ?_
    refine zza ?_; refine AOps.nil (ARun.block ?_)
    refine ARun.loopI (S := Nat) (fun k : Nat => [(8, .int .i64 (k : Int)), (68, .any), (69, .any), (70, .any), (71, .any), (72, .any), (73, .any), (74, .any), (75, .any), (76, .any), (77, .any)]) (fun k : Nat => [some ⟨swL (sr S lo k), Zac, 1, true, none⟩]) (fun k : Nat => lo ≤ k ∧ k ≤ hi + 1) (fun k : Nat => hi + 1 - k) (lo) ?_ ?_ ?_ ?_
    · exact ⟨Nat.le_refl _, by omega⟩
    · (repeat' first | exact envLe_nil | apply envLe_any | apply envLe_same)
    · rw [sr_zero]
    rintro k hv ih2
    obtain ⟨v1, v2⟩ := hv
    refine ARun.seq (ARun.seq (ARun.region ?_)); refine zzm ?_; refine zzm ?_
    refine y_op rfl (q_conv rfl rfl rfl (show _ = (hi : Int) by rw [IntWalk.i64_in _ (by omega)])) ?_
    refine zzi ?_; refine AOps.nil ?_
    refine ARun.ite rfl (fun y => ?_) (fun y => ?_)
    · skip
      have y : k ≤ hi := by omega
      have hsucc := sr_succ S v1
      refine ARun.skip (ARun.seq (ARun.block (ARun.region ?_)))
      refine y_op rfl (Zab rfl rfl rfl rfl rfl rfl) ?_
      refine zzm ?_
      refine y_op rfl (q_conv rfl rfl rfl (size_in (by omega))) ?_
      refine zzc rfl rfl (ZdO (sr S lo k) k (by omega)) ?_
      refine y_new rfl (Zak rfl rfl rfl rfl rfl rfl rfl rfl (Nat.le_of_ble_eq_true rfl) rfl) ?_
      refine AOps.nil (ARun.inBlock (ARun.region ?_)); refine zzm ?_
      refine y_op rfl (q_add rfl rfl (nadd1_i64 (by omega))) ?_
      refine zza ?_; refine AOps.nil ?_
      refine ARun.again (ih2 (k + 1) ?_ ?_) ?_ ?_
      · exact ⟨by omega, by omega⟩
      · omega
      · (repeat' first | exact envLe_nil | apply envLe_any | apply envLe_same)
      (rw [← hsucc]; rfl)
    obtain rfl : k = hi + 1 := by omega
    refine ARun.exit rfl ?_
    refine ARun.inBlock (ARun.region ?_); refine zzm ?_
    refine y_op rfl (q_add rfl rfl (nadd1_i64 (by omega))) ?_
    refine zza ?_; refine AOps.nil ?_
    refine ARun.again (ih ((i + dd + 1, sr S lo (hi + 1))) ?_ ?_) ?_ ?_
    · exact ⟨hnext.2, hnext.1⟩
    · (dsimp only; omega)
    · (repeat' first | exact envLe_nil | apply envLe_any | apply envLe_same)
    rfl
  have g1 : i = s1.size := by omega
  have hs : rdI sempty (sby s1) = some S := by rw [i2]; exact rd_end S (by omega)
  rw [readR_some hbad hs]
  refine ARun.exit rfl ?_
  refine ARun.seq (ARun.seq (ARun.region ?_)); refine zzm ?_; refine AOps.nil ?_
  refine ARun.cond rfl (fun n1 => ?_) (fun n1 => ?_)
  · skip
    obtain rfl : neg = true := n1
    refine ARun.seq (ARun.region ?_)
    refine y_op rfl (Zab rfl rfl rfl rfl rfl rfl) ?_
    refine zzc rfl rfl (Zfb S) ?_
    refine y_new rfl (Zak rfl rfl rfl rfl rfl rfl rfl rfl (Nat.le_of_ble_eq_true rfl) rfl) ?_
    refine zza ?_; refine AOps.nil ?_
    refine ARun.ret ?_
    refine ⟨_, _, _, ResR.cellA rfl rfl rfl rfl rfl rfl (.tmp rfl .nil), .cons (.same _) (.cons (.same _) .nil), rfl, ?_⟩
    rfl
  obtain rfl : neg = false := n1
  refine ARun.skip (ARun.seq (ARun.region ?_))
  refine y_op rfl (Zab rfl rfl rfl rfl rfl rfl) ?_
  refine y_new rfl (Zak rfl rfl rfl rfl rfl rfl rfl rfl (Nat.le_of_ble_eq_true rfl) rfl) ?_
  refine zza ?_; refine AOps.nil ?_
  refine ARun.ret ?_
  refine ⟨_, _, _, ResR.cellA rfl rfl rfl rfl rfl rfl (.tmp rfl .nil), .cons (.same _) (.cons (.same _) .nil), rfl, ?_⟩
  rfl
end Go.V
set_option maxHeartbeats 8000000
set_option maxRecDepth 100000
set_option synthInstance.maxSize 100000
set_option synthInstance.maxHeartbeats 2000000
namespace Go.V
open Go.RowKit Go.Proofs
theorem isCaret (s : ByteArray) : isPre s sCaret = (decide (0 < s.size) && decide ((sby s).getD 0 0 = 94)) := by
  unfold isPre
  rw [← Bool.decide_and]
  apply decide_eq_decide.2
  have hl := sby_len s
  show List.take 1 (sby s) = [94] ↔ _
  cases h : sby s with
  | nil => rw [h] at hl; constructor
           · intro h; cases h
           rintro ⟨h, _⟩; rw [← hl] at h; cases h
  | cons c r =>
    rw [h] at hl
    constructor
    · intro h2; injection h2 with h2 _; exact ⟨by rw [← hl]; simp, h2⟩
    rintro ⟨_, h2⟩
    have h2 : c = 94 := h2
    rw [h2]; rfl
end Go.V
set_option maxHeartbeats 8000000
set_option maxRecDepth 100000
set_option synthInstance.maxSize 100000
set_option synthInstance.maxHeartbeats 2000000
namespace Go.V
open Go.RowKit Go.Proofs
def rin (S : Nat → Bool) (c : Nat) : Bool := S c && !(decide (c = 93) || (decide (c = 94) || decide (c = 45)))
def rend (S : Nat → Bool) (d : Nat) : Nat := if d + 1 < 256 ∧ rin S (d + 1) = true then rend S (d + 1) else d
termination_by 256 - d
theorem rend_ge (S : Nat → Bool) (d : Nat) : d ≤ rend S d := by
  rw [rend]; split
  · have := rend_ge S (d + 1); omega
  exact Nat.le_refl _
termination_by 256 - d
theorem rend_lt (S : Nat → Bool) (d : Nat) (h : d < 256) : rend S d < 256 := by
  rw [rend]; split
  · rename_i g; exact rend_lt S (d + 1) g.1
  exact h
termination_by 256 - d
def wr (c d : Nat) : List Nat := if c + 2 ≤ d then [c, 45, d] else (List.range (d + 1 - c)).map (c + ·)
theorem wr_len (c d : Nat) : (wr c d).length ≤ d + 1 - c := by
  unfold wr; split
  · simp only [List.length_cons, List.length_nil]; omega
  simp
theorem wr_lt (c d : Nat) (hc : c < 256) (hd : d < 256) : ∀ x ∈ wr c d, x < 256 := by
  unfold wr; split
  · intro x hx; simp only [List.mem_cons, List.not_mem_nil, or_false] at hx; omega
  intro x hx; simp only [List.mem_map, List.mem_range] at hx; omega
def rtx (S : Nat → Bool) (c : Nat) : List Nat :=
  if h : c < 256 then bif rin S c then wr c (rend S c) ++ rtx S (rend S c + 1) else rtx S (c + 1) else []
termination_by 256 - c
decreasing_by
  · have := rend_ge S c; omega
  omega
theorem rtx_end (S : Nat → Bool) : rtx S 256 = [] := by rw [rtx]; rfl
theorem rtx_no {S : Nat → Bool} {c : Nat} (h : c < 256) (g : rin S c = false) : rtx S c = rtx S (c + 1) := by rw [rtx, dif_pos h, g]; rfl
theorem rtx_yes {S : Nat → Bool} {c : Nat} (h : c < 256) (g : rin S c = true) : rtx S c = wr c (rend S c) ++ rtx S (rend S c + 1) := by rw [rtx, dif_pos h, g]; rfl
theorem rend_yes {S : Nat → Bool} {d : Nat} (h : d + 1 < 256) (g : rin S (d + 1) = true) : rend S d = rend S (d + 1) := by rw [rend, if_pos ⟨h, g⟩]
theorem rend_no {S : Nat → Bool} {d : Nat} (h : ¬ (d + 1 < 256 ∧ rin S (d + 1) = true)) : rend S d = d := by rw [rend, if_neg h]
theorem rtx_lt (S : Nat → Bool) (c : Nat) : ∀ x ∈ rtx S c, x < 256 := by
  rw [rtx]; split
  · rename_i h
    cases rin S c
    · exact rtx_lt S (c + 1)
    intro x hx
    have hx : x ∈ wr c (rend S c) ++ rtx S (rend S c + 1) := hx
    rw [List.mem_append] at hx
    have := rend_ge S c
    exact hx.elim (wr_lt c _ h (rend_lt S c h) x) (rtx_lt S (rend S c + 1) x)
  intro x hx; cases hx
termination_by 256 - c
theorem rtx_len (S : Nat → Bool) (c : Nat) : (rtx S c).length ≤ 256 - c := by
  rw [rtx]; split
  · rename_i h
    cases rin S c
    · have := rtx_len S (c + 1); show (rtx S (c + 1)).length ≤ _; omega
    show (wr c (rend S c) ++ rtx S (rend S c + 1)).length ≤ _
    have := rend_ge S c
    have := rend_lt S c h
    have := wr_len c (rend S c)
    have := rtx_len S (rend S c + 1)
    rw [List.length_append]; omega
  exact Nat.zero_le _
termination_by 256 - c
theorem sspec_nat (c : Nat) : sspec (c : Int) = (decide (c = 93) || (decide (c = 94) || decide (c = 45))) := by
  unfold sspec
  rw [decide_eq_decide.2 (show (c : Int) = 93 ↔ c = 93 by omega), decide_eq_decide.2 (show (c : Int) = 94 ↔ c = 94 by omega), decide_eq_decide.2 (show (c : Int) = 45 ↔ c = 45 by omega)]
theorem srcD_grow {H : Heap} {n : Nat} {J : Heap} {e : TypeId} {cs : List D} {F : Heap → Heap} [g : GrowL H n J e cs F] : srcD H (growD (n + J.length) cs) = some (cs.length, cs) := by
  obtain ⟨B, g1, g2, g3⟩ := g.prf
  subst g2; subst g1
  cases cs with
  | nil => rfl
  | cons c cs =>
    have ho : (B ++ growT J e (c :: cs))[B.length + J.length]? = some (some ⟨c :: cs, e, 1, true, none⟩) := by
      simp only [growT]
      rw [List.getElem?_append_right (by omega), Nat.add_sub_cancel_left, List.getElem?_append_right (by omega)]
      simp
    show (match (B ++ growT J e (c :: cs))[B.length + J.length]? with | some (some o) => some (cs.length + 1, o.cells) | _ => none) = _
    rw [ho]; rfl
theorem Zh1 (S : Nat → Bool) : PC C ZhG [setD S] (fun o => o = .ret (.str (bytesOf (rtx S 1)))) := by
  obtain ⟨T, hT⟩ : ∃ T, T = rtx S 1 := ⟨_, rfl⟩
  have hTl : ∀ x ∈ T, x < 256 := by rw [hT]; exact rtx_lt S 1
  rw [← hT]
  refine PC.rn Ze4 Zha Zhb (rs := [.tmp 2]) (by rw [Zhc]) ?_
  refine ARun.seq (ARun.region ?_)
  refine y_new rfl (n_box rfl rfl rfl) ?_
  refine zza ?_; refine AOps.nil (ARun.seq (ARun.region ?_)); refine zza ?_; refine AOps.nil (ARun.seq (ARun.region ?_)); refine zza ?_; refine AOps.nil (ARun.seq (ARun.block ?_))
  refine ARun.hp (H' := some ⟨swL S, Zac, 1, true, none⟩ :: growT [] ZaO (nts .u8 ([] : List Nat))) rfl ?_
  refine ARun.loopI (S := Nat × List Nat × Heap) (fun σ : Nat × List Nat × Heap => [(3, growD (1 + σ.2.2.length) (nts .u8 σ.2.1)), (4, .int .i64 (σ.1 : Int)), (5, .any), (6, .any), (7, .any), (8, .any), (9, .any), (10, .any), (11, .any), (12, .any), (13, .any), (14, .any), (15, .any), (16, .any), (17, .any), (18, .any), (19, .any), (20, .any), (21, .any), (22, .any), (23, .any), (24, .any), (25, .any), (26, .any), (27, .any), (28, .any), (29, .any), (30, .any), (31, .any), (32, .any), (33, .any), (34, .any), (35, .any), (36, .any), (37, .any), (38, .any), (39, .any), (40, .any), (41, .any), (42, .any), (43, .any), (44, .any), (45, .any), (46, .any), (47, .any), (48, .any), (49, .any), (50, .any), (51, .any), (52, .any), (53, .any), (54, .any), (55, .any), (56, .any), (57, .any), (58, .any), (59, .any), (60, .any)]) (fun σ : Nat × List Nat × Heap => some ⟨swL S, Zac, 1, true, none⟩ :: growT σ.2.2 ZaO (nts .u8 σ.2.1)) (fun σ : Nat × List Nat × Heap => σ.1 ≤ 256 ∧ T = σ.2.1 ++ rtx S σ.1 ∧ σ.2.1.length ≤ σ.1) (fun σ : Nat × List Nat × Heap => 256 - σ.1) ((1, [], [])) ?_ ?_ ?_ ?_
  · exact ⟨by decide, by rw [hT, List.nil_append], Nat.zero_le _⟩
  · (repeat' first | exact envLe_nil | apply envLe_any | apply envLe_same)
  · rfl
  rintro ⟨c, L, J⟩ hinv ih
  dsimp only at hinv ih ⊢
  obtain ⟨h1, h2, h3⟩ := hinv
  refine ARun.seq (ARun.seq (ARun.region ?_)); refine zzm ?_; refine zzi ?_; refine AOps.nil ?_
  refine ARun.ite rfl (fun g => ?_) (fun g => ?_)
  · skip
    have g : c < 256 := by omega
    refine ARun.skip (ARun.block (ARun.seq (ARun.seq (ARun.region ?_))))
    refine y_op rfl (Zab rfl rfl rfl rfl rfl rfl) ?_
    refine zzm ?_
    refine y_op rfl (q_conv rfl rfl rfl (size_in g)) ?_
    refine zzc rfl rfl (ZaM S c g) ?_
    refine zzn ?_; refine zzm ?_
    apply AOps.orJ 13 (fun sj1 => [(13, .any), (14, .any), (15, .any), (16, .bool sj1)]) rfl
    · intro hj1 run1
      try replace hj1 := of_decide_eq_true hj1
      refine zzk ?_; refine zzk ?_; refine zzp ?_
      exact AOps.ag run1
    · intro hj1 run1
      try replace hj1 := of_decide_eq_false hj1
      refine zzm ?_
      refine zzc rfl rfl (Zem (c : Int)) ?_
      refine zzp ?_
      exact AOps.ag run1
    refine AOps.nil ?_
    refine ARun.cond rfl (fun q => ?_) (fun q => ?_)
    · skip
      have hn : rin S c = false := by
        unfold rin; rw [← sspec_nat]
        cases h : S c
        · rfl
        rw [h] at q; cases hs : sspec (c : Int)
        · rw [hs] at q; cases q
        rfl
      refine ARun.seq (ARun.region ?_); refine zzm ?_
      refine y_op rfl (q_add rfl rfl (nadd1_i64 (by omega))) ?_
      refine zza ?_; refine AOps.nil ?_
      refine ARun.exit rfl ?_
      refine ARun.again (ih ((c + 1, L, J)) ?_ ?_) ?_ ?_
      · exact ⟨g, by dsimp only; rw [← rtx_no g hn]; exact h2, Nat.le_succ_of_le h3⟩
      · (dsimp only; omega)
      · (repeat' first | exact envLe_nil | apply envLe_any | apply envLe_same)
      rfl
    have hy : rin S c = true := by
      unfold rin; rw [← sspec_nat]
      cases h : S c
      · rw [h] at q; cases q
      rw [h] at q; cases hs : sspec (c : Int)
      · rfl
      rw [hs] at q; cases q
    rw [rtx_yes g hy] at h2
    have hge := rend_ge S c
    have hlt := rend_lt S c g
    obtain ⟨e, he⟩ : ∃ e, e = rend S c := ⟨_, rfl⟩
    rw [← he] at h2 hge hlt
    refine ARun.skip (ARun.seq (ARun.region ?_)); refine zzm ?_; refine zza ?_; refine AOps.nil (ARun.seq (ARun.block ?_))
    refine ARun.loopI (S := Nat) (fun d : Nat => [(5, .int .i64 (d : Int)), (20, .any), (21, .any), (22, .any), (23, .any), (24, .any), (25, .any), (26, .any), (27, .any), (28, .any), (29, .any), (30, .any), (31, .any), (32, .any), (33, .any), (34, .any), (35, .any), (36, .any), (37, .any)]) (fun d : Nat => some ⟨swL S, Zac, 1, true, none⟩ :: growT J ZaO (nts .u8 L)) (fun d : Nat => c ≤ d ∧ d ≤ e ∧ rend S d = e) (fun d : Nat => 256 - d) (c) ?_ ?_ ?_ ?_
    · exact ⟨Nat.le_refl _, hge, he.symm⟩
    · (repeat' first | exact envLe_nil | apply envLe_any | apply envLe_same)
    · rfl
    rintro d hinv ih2
    obtain ⟨d1, d2, d3⟩ := hinv
    refine ARun.seq (ARun.seq (ARun.region ?_)); refine zzm ?_
    refine y_op rfl (q_add rfl rfl (nadd1_i64 (by omega))) ?_
    refine y_op rfl (OpQ.cast (d' := .bool (decide (d + 1 < 256))) (q_int rfl rfl rfl) (congrArg D.bool (decide_eq_decide.2 (by omega)))) ?_
    refine zzm ?_
    apply AOps.andJ 23 (fun sj2 => [(23, .any), (24, .any), (25, .any), (26, .any), (27, .any), (28, .any), (29, .bool sj2)]) rfl
    · intro hj2 run2
      try replace hj2 := of_decide_eq_true hj2
      refine y_op rfl (Zab rfl rfl rfl rfl rfl rfl) ?_
      refine zzm ?_
      refine y_op rfl (q_add rfl rfl (nadd1_i64 (by omega))) ?_
      refine y_op rfl (q_conv rfl rfl rfl (show _ = ((d + 1 : Nat) : Int) by rw [IntKind.wrap_u8]; omega)) ?_
      refine zzc rfl rfl (ZaM S (d + 1) (by omega)) ?_
      refine zzp ?_
      exact AOps.ag run2
    · intro hj2 run2
      try replace hj2 := of_decide_eq_false hj2
      refine zzk ?_; refine zzk ?_; refine zzk ?_; refine zzk ?_; refine zzk ?_; refine zzp ?_
      exact AOps.ag run2
    refine zzm ?_
    apply AOps.andJ 30 (fun sj3 => [(30, .any), (31, .any), (32, .any), (33, .any), (34, .any), (35, .bool sj3)]) rfl
    · intro hj3 run3
      try replace hj3 := of_decide_eq_true hj3
      refine zzm ?_
      refine y_op rfl (q_add rfl rfl (nadd1_i64 (by omega))) ?_
      refine zzc rfl rfl (Zem ((d + 1 : Nat) : Int)) ?_
      refine zzn ?_; refine zzp ?_
      exact AOps.ag run3
    · intro hj3 run3
      try replace hj3 := of_decide_eq_false hj3
      refine zzk ?_; refine zzk ?_; refine zzk ?_; refine zzk ?_; refine zzp ?_
      exact AOps.ag run3
    refine AOps.nil ?_
    refine ARun.cond rfl (fun y => ?_) (fun y => ?_)
    · skip
      rw [Bool.and_eq_true, Bool.and_eq_true, decide_eq_true_eq, sspec_nat] at y
      have hr : rin S (d + 1) = true := by unfold rin; rw [y.1.2, Bool.true_and]; exact y.2
      rw [rend_yes y.1.1 hr] at d3
      have := rend_ge S (d + 1)
      have hw : IntKind.i64.wrap ((d : Int) + 1) = ((d + 1 : Nat) : Int) := by rw [IntWalk.i64_in _ (by omega)]; rfl
      refine ARun.skip (ARun.block (ARun.region ?_)); refine zzm ?_
      refine y_op rfl (q_add rfl rfl (nadd1_i64 (by omega))) ?_
      refine zza ?_; refine AOps.nil (ARun.inBlock ?_)
      refine ARun.again (ih2 (d + 1) ?_ ?_) ?_ ?_
      · exact ⟨by omega, by omega, d3⟩
      · omega
      · (repeat' first | exact envLe_nil | apply envLe_any | apply envLe_same)
      rfl
    have hr : ¬ (d + 1 < 256 ∧ rin S (d + 1) = true) := by
      rintro ⟨a1, a2⟩
      unfold rin at a2
      rw [Bool.and_eq_true] at a2
      rw [sspec_nat, decide_eq_true a1, a2.1, a2.2] at y
      cases y
    rw [rend_no hr] at d3
    subst d3
    clear ih2 y hr d1 d2 he
    refine ARun.exit rfl ?_
    refine ARun.seq (ARun.seq (ARun.region ?_)); refine zzm ?_; refine zzm ?_
    refine y_op rfl (q_sub rfl rfl (nsub_i64 (by omega) (by omega))) ?_
    refine zzi ?_; refine AOps.nil ?_
    refine ARun.ite rfl (fun z => ?_) (fun z => ?_)
    · skip
      have z : c + 2 ≤ d := by omega
      have hwr : wr c d = [c, 45, d] := if_pos z
      rw [hwr] at h2
      refine ARun.region ?_; refine zzm ?_; refine zzm ?_
      refine y_op rfl (q_conv rfl rfl rfl (show _ = (c : Int) by rw [IntKind.wrap_u8]; omega)) ?_
      refine zzm ?_
      refine y_op rfl (q_conv rfl rfl rfl (show _ = (d : Int) by rw [IntKind.wrap_u8]; omega)) ?_
      refine y_op rfl (Zba rfl rfl rfl rfl rfl rfl rfl rfl rfl rfl rfl (by decide) (by decide) rfl) ?_
      refine ZiR (dxs := [.int .u8 (c : Int), .int .u8 45, .int .u8 (d : Int)]) rfl rfl rfl rfl rfl rfl rfl rfl rfl rfl (by decide) (by show (_ + 3) * 1 ≤ _; rw [nts_length]; omega) (by rw [nts_length]; omega) (fun J' => ?_)
      rw [show nts .u8 L ++ [D.int .u8 (c : Int), D.int .u8 45, D.int .u8 (d : Int)] = nts .u8 (L ++ [c, 45, d]) by simp [nts]]
      refine zza ?_; refine AOps.nil (ARun.region ?_); refine zzm ?_
      refine y_op rfl (q_add rfl rfl (nadd1_i64 (by omega))) ?_
      refine zza ?_; refine AOps.nil (ARun.inBlock ?_)
      refine ARun.again (ih ((d + 1, L ++ [c, 45, d], J')) ?_ ?_) ?_ ?_
      · exact ⟨by dsimp only; omega, by dsimp only; rw [List.append_assoc]; exact h2, by simp only [List.length_append, List.length_cons, List.length_nil]; omega⟩
      · (dsimp only; omega)
      · (repeat' first | exact envLe_nil | apply envLe_any | apply envLe_same)
      rfl
    have z : ¬ c + 2 ≤ d := by omega
    have hwr : wr c d = (List.range (d + 1 - c)).map (c + ·) := if_neg z
    rw [hwr] at h2
    refine ARun.block ?_
    refine ARun.loopI (S := Nat × List Nat × Heap) (fun σ : Nat × List Nat × Heap => [(3, growD (1 + σ.2.2.length) (nts .u8 σ.2.1)), (4, .int .i64 ((c + σ.1 : Nat) : Int)), (49, .any), (50, .any), (51, .any), (52, .any), (53, .any), (54, .any), (55, .any), (56, .any), (57, .any), (58, .any)]) (fun σ : Nat × List Nat × Heap => some ⟨swL S, Zac, 1, true, none⟩ :: growT σ.2.2 ZaO (nts .u8 σ.2.1)) (fun σ : Nat × List Nat × Heap => c + σ.1 ≤ d + 1 ∧ σ.2.1 = L ++ (List.range σ.1).map (c + ·)) (fun σ : Nat × List Nat × Heap => d + 1 - (c + σ.1)) ((0, L, J)) ?_ ?_ ?_ ?_
    · exact ⟨by dsimp only; omega, by dsimp only; rw [List.range_zero, List.map_nil, List.append_nil]⟩
    · (repeat' first | exact envLe_nil | apply envLe_any | apply envLe_same)
    · rfl
    rintro ⟨m, L1, J1⟩ hinv ih3
    dsimp only at hinv ih3 ⊢
    obtain ⟨m1, m2⟩ := hinv
    have hll := congrArg List.length m2
    rw [List.length_append, List.length_map, List.length_range] at hll
    refine ARun.seq (ARun.seq (ARun.region ?_)); refine zzm ?_; refine zzm ?_; refine zzi ?_; refine AOps.nil ?_
    refine ARun.ite rfl (fun f => ?_) (fun f => ?_)
    · skip
      have f : c + m ≤ d := by omega
      refine ARun.skip (ARun.seq (ARun.block (ARun.region ?_))); refine zzm ?_; refine zzm ?_
      refine y_op rfl (q_conv rfl rfl rfl (show _ = ((c + m : Nat) : Int) by rw [IntKind.wrap_u8]; omega)) ?_
      refine y_op rfl (Zba rfl rfl rfl rfl rfl rfl rfl rfl rfl rfl rfl (by decide) (by decide) rfl) ?_
      refine ZiP (dx := .int .u8 ((c + m : Nat) : Int)) rfl rfl rfl rfl rfl rfl rfl rfl rfl (by show (_ + 1) * 1 ≤ _; rw [nts_length]; omega) (by rw [nts_length]; omega) (fun J' => ?_)
      rw [show nts .u8 L1 ++ [D.int .u8 ((c + m : Nat) : Int)] = nts .u8 (L1 ++ [c + m]) by simp [nts]]
      refine zza ?_; refine AOps.nil (ARun.inBlock (ARun.region ?_)); refine zzm ?_
      refine y_op rfl (OpQ.cast (d' := .int .i64 ((c + (m + 1) : Nat) : Int)) (q_int rfl rfl rfl) (congrArg (D.int .i64) (by show IntKind.i64.wrap _ = _; rw [IntWalk.i64_in _ (by omega)]; omega))) ?_
      refine zza ?_; refine AOps.nil ?_
      refine ARun.again (ih3 ((m + 1, L1 ++ [c + m], J')) ?_ ?_) ?_ ?_
      · exact ⟨by dsimp only; omega, by dsimp only; rw [m2, List.range_succ, List.map_append, List.append_assoc]; rfl⟩
      · (dsimp only; omega)
      · (repeat' first | exact envLe_nil | apply envLe_any | apply envLe_same)
      rfl
    obtain rfl : m = d + 1 - c := by omega
    rw [← List.append_assoc, ← m2] at h2
    refine ARun.exit rfl ?_
    refine ARun.region ?_; refine zzm ?_
    refine y_op rfl (q_add rfl rfl (nadd1_i64 (by omega))) ?_
    refine zza ?_; refine AOps.nil (ARun.inBlock ?_)
    refine ARun.again (ih ((d + 1, L1, J1)) ?_ ?_) ?_ ?_
    · exact ⟨by dsimp only; omega, h2, by dsimp only; omega⟩
    · (dsimp only; omega)
    · (repeat' first | exact envLe_nil | apply envLe_any | apply envLe_same)
    rfl
  obtain rfl : c = 256 := by omega
  rw [rtx_end, List.append_nil] at h2
  subst h2
  refine ARun.exit rfl ?_
  refine ARun.seq (ARun.region ?_); refine zzm ?_
  refine y_op rfl (ZcU (n := (nts .u8 T).length) (l := T) rfl (by kernel_rfl) rfl rfl srcD_grow (by rw [nts_length])) ?_
  refine zza ?_; refine AOps.nil ?_
  refine ARun.ret ?_
  refine ⟨_, _, _, .tmp rfl .nil, .cons (.same _) .nil, rfl, ?_⟩
  rfl
end Go.V
set_option maxHeartbeats 8000000
set_option maxRecDepth 100000
set_option synthInstance.maxSize 100000
set_option synthInstance.maxHeartbeats 2000000
namespace Go.V
open Go.RowKit Go.Proofs
def pre1 (b : Bool) (c : Nat) : List Nat := bif b then [c] else []
def setBody (T : Nat → Bool) : List Nat := pre1 (T 93) 93 ++ (rtx T 1 ++ (pre1 (T 94) 94 ++ pre1 (T 45) 45))
def setNeg (n : Nat) (b : Bool) : Bool := (decide (n = 0) || (decide (127 < n) && decide (n < 255))) || (decide (n = 1) && b)
def setTx (S : Nat → Bool) : List Nat × Int :=
  bif S 0 then ([], 1) else bif setNeg (ssize S 256) (S 94) then (94 :: setBody (sother S), 0) else bif (decide (ssize S 256 = 2) && S 94) && S 45 then ([45, 94], 0) else (setBody S, 0)
theorem ZgF (S : Nat → Bool) : PC C Zf3 [setD S] (fun o => o = .ret (.tup [.str (bytesOf (setTx S).1), .int .i64 (setTx S).2])) := by
  obtain ⟨R, hR⟩ : ∃ R, R = setTx S := ⟨_, rfl⟩
  rw [← hR]
  unfold setTx at hR
  obtain ⟨n, hn⟩ : ∃ n, n = ssize S 256 := ⟨_, rfl⟩
  rw [← hn] at hR
  have hsz := Zh0 S
  rw [← hn] at hsz
  have hle : n ≤ 256 := by rw [hn]; exact ssize_le S 256
  clear hn
  refine PC.rn Zc7 Zfn Zfo (rs := [.tmp 2, .tmp 3]) (by rw [Zfp]) ?_
  refine ARun.seq (ARun.region ?_)
  refine y_new rfl (n_box rfl rfl rfl) ?_
  refine zza ?_; refine zza ?_; refine AOps.nil (ARun.seq (ARun.seq (ARun.region ?_)))
  refine y_op rfl (Zab rfl rfl rfl rfl rfl rfl) ?_
  refine zzc rfl rfl (ZaM S 0 (by decide)) ?_
  refine AOps.nil ?_
  refine ARun.cond rfl (fun h0 => ?_) (fun h0 => ?_)
  · skip
    rw [h0, cond_true] at hR
    subst hR
    refine ARun.seq (ARun.region ?_); refine zza ?_; refine zza ?_; refine AOps.nil ?_
    refine ARun.ret ?_
    refine ⟨_, _, _, .tmp rfl (.tmp rfl .nil), .cons (.same _) (.cons (.same _) .nil), rfl, ?_⟩
    rfl
  rw [h0, cond_false] at hR
  refine ARun.skip (ARun.seq (ARun.region ?_))
  refine y_op rfl (Zab rfl rfl rfl rfl rfl rfl) ?_
  refine zzc rfl rfl (hsz) ?_
  refine zza ?_; refine AOps.nil (ARun.seq (ARun.region ?_))
  refine y_op rfl (Zab rfl rfl rfl rfl rfl rfl) ?_
  refine y_new rfl (ZaN rfl rfl rfl rfl) ?_
  refine y_new rfl (Zak rfl rfl rfl rfl rfl rfl rfl rfl (Nat.le_of_ble_eq_true rfl) rfl) ?_
  refine AOps.nil (ARun.seq (ARun.region ?_)); refine zza ?_; refine AOps.nil (ARun.seq (ARun.seq (ARun.region ?_))); refine zzm ?_
  refine y_op rfl (OpQ.cast (d' := .bool (decide (n = 0))) (q_int rfl rfl rfl) (congrArg D.bool (decide_eq_decide.2 (by omega)))) ?_
  refine zzm ?_
  apply AOps.orJ 14 (fun sj1 => [(14, .any), (15, .any), (16, .any), (17, .any), (18, .any), (19, .any), (20, .any), (21, .bool sj1)]) rfl
  · intro hj1 run1
    try replace hj1 := of_decide_eq_true hj1
    refine zzk ?_; refine zzk ?_; refine zzk ?_; refine zzk ?_; refine zzk ?_; refine zzk ?_; refine zzp ?_
    exact AOps.ag run1
  · intro hj1 run1
    try replace hj1 := of_decide_eq_false hj1
    refine zzm ?_
    refine y_op rfl (OpQ.cast (d' := .bool (decide (127 < n))) (q_int rfl rfl rfl) (congrArg D.bool (decide_eq_decide.2 (by omega)))) ?_
    refine zzm ?_
    apply AOps.andJ 17 (fun sj2 => [(17, .any), (18, .any), (19, .any), (20, .bool sj2)]) rfl
    · intro hj2 run2
      try replace hj2 := of_decide_eq_true hj2
      refine zzm ?_
      refine y_op rfl (OpQ.cast (d' := .bool (decide (n < 255))) (q_int rfl rfl rfl) (congrArg D.bool (decide_eq_decide.2 (by omega)))) ?_
      refine zzp ?_
      exact AOps.ag run2
    · intro hj2 run2
      try replace hj2 := of_decide_eq_false hj2
      refine zzk ?_; refine zzk ?_; refine zzp ?_
      exact AOps.ag run2
    refine zzp ?_
    exact AOps.ag run1
  refine zzm ?_
  apply AOps.orJ 22 (fun sj3 => [(22, .any), (23, .any), (24, .any), (25, .any), (26, .any), (27, .any), (28, .any), (29, .bool sj3)]) rfl
  · intro hj3 run3
    try replace hj3 := of_decide_eq_true hj3
    refine zzk ?_; refine zzk ?_; refine zzk ?_; refine zzk ?_; refine zzk ?_; refine zzk ?_; refine zzp ?_
    exact AOps.ag run3
  · intro hj3 run3
    try replace hj3 := of_decide_eq_false hj3
    refine zzm ?_
    refine y_op rfl (OpQ.cast (d' := .bool (decide (n = 1))) (q_int rfl rfl rfl) (congrArg D.bool (decide_eq_decide.2 (by omega)))) ?_
    refine zzm ?_
    apply AOps.andJ 25 (fun sj4 => [(25, .any), (26, .any), (27, .any), (28, .bool sj4)]) rfl
    · intro hj4 run4
      try replace hj4 := of_decide_eq_true hj4
      refine y_op rfl (Zab rfl rfl rfl rfl rfl rfl) ?_
      refine zzc rfl rfl (ZaM S 94 (by decide)) ?_
      refine zzp ?_
      exact AOps.ag run4
    · intro hj4 run4
      try replace hj4 := of_decide_eq_false hj4
      refine zzk ?_; refine zzk ?_; refine zzp ?_
      exact AOps.ag run4
    refine zzp ?_
    exact AOps.ag run3
  refine AOps.nil ?_
  have hcd : ∀ b : Bool, setNeg n b = ((decide (n = 0) || (decide (127 < n) && decide (n < 255))) || (decide (n = 1) && b)) := fun _ => rfl
  rw [← hcd]
  generalize setNeg n (S 94) = ng at *
  clear hcd
  refine ARun.joinH (S := List Nat × (Nat → Bool)) (fun σ : List Nat × (Nat → Bool) => [(2, .any), (3, .any), (6, .str (bytesOf σ.1)), (30, .any), (31, .any), (32, .any), (33, .any), (34, .any), (35, .any), (36, .any), (37, .any), (38, .any), (39, .any), (40, .any), (41, .any)]) (fun σ : List Nat × (Nat → Bool) => [some ⟨swL S, Zac, 1, true, none⟩, some ⟨swL σ.2, Zac, 1, true, none⟩]) (fun σ : List Nat × (Nat → Bool) => σ.1.length ≤ 1 ∧ R = (σ.1 ++ setBody σ.2, 0)) (fun run => ?_) ?_
  · skip
    refine ARun.cond rfl (fun y => ?_) (fun y => ?_)
    · skip
      rw [y, cond_true] at hR
      refine ARun.seq (ARun.region ?_)
      refine y_op rfl (Zab rfl rfl rfl rfl rfl rfl) ?_
      refine zzc rfl rfl (Zhi S) ?_
      refine y_new rfl (Zak rfl rfl rfl rfl rfl rfl rfl rfl (Nat.le_of_ble_eq_true rfl) rfl) ?_
      refine AOps.nil (ARun.region ?_); refine zza ?_; refine AOps.nil ?_
      exact ARun.ag (run (([94], sother S)) (⟨Nat.le_refl 1, hR⟩))
    rw [y, cond_false] at hR
    refine ARun.seq (ARun.region ?_); refine zzm ?_
    refine y_op rfl (OpQ.cast (d' := .bool (decide (n = 2))) (q_int rfl rfl rfl) (congrArg D.bool (decide_eq_decide.2 (by omega)))) ?_
    refine zzm ?_
    apply AOps.andJ 34 (fun sj5 => [(34, .any), (35, .any), (36, .any), (37, .bool sj5)]) rfl
    · intro hj5 run5
      try replace hj5 := of_decide_eq_true hj5
      refine y_op rfl (Zab rfl rfl rfl rfl rfl rfl) ?_
      refine zzc rfl rfl (ZaM S 94 (by decide)) ?_
      refine zzp ?_
      exact AOps.ag run5
    · intro hj5 run5
      try replace hj5 := of_decide_eq_false hj5
      refine zzk ?_; refine zzk ?_; refine zzp ?_
      exact AOps.ag run5
    refine zzm ?_
    apply AOps.andJ 38 (fun sj6 => [(38, .any), (39, .any), (40, .any), (41, .bool sj6)]) rfl
    · intro hj6 run6
      try replace hj6 := of_decide_eq_true hj6
      refine y_op rfl (Zab rfl rfl rfl rfl rfl rfl) ?_
      refine zzc rfl rfl (ZaM S 45 (by decide)) ?_
      refine zzp ?_
      exact AOps.ag run6
    · intro hj6 run6
      try replace hj6 := of_decide_eq_false hj6
      refine zzk ?_; refine zzk ?_; refine zzp ?_
      exact AOps.ag run6
    refine AOps.nil ?_
    refine ARun.cond rfl (fun z => ?_) (fun z => ?_)
    · skip
      rw [z, cond_true] at hR
      subst hR
      refine ARun.seq (ARun.region ?_); refine zza ?_; refine zza ?_; refine AOps.nil ?_
      refine ARun.ret ?_
      refine ⟨_, _, _, .tmp rfl (.tmp rfl .nil), .cons (.same _) (.cons (.same _) .nil), rfl, ?_⟩
      rfl
    rw [z, cond_false] at hR
    refine ARun.skip ?_
    exact ARun.ag (run (([], S)) (⟨Nat.zero_le 1, hR⟩))
  rintro ⟨P, T⟩ hj
  try dsimp only at hj ⊢
  obtain ⟨p1, p2⟩ := hj
  clear hR h0 hsz hle
  refine ARun.seq (ARun.seq (ARun.region ?_))
  refine y_op rfl (Zab rfl rfl rfl rfl rfl rfl) ?_
  refine zzc rfl rfl (ZaM T 93 (by decide)) ?_
  refine AOps.nil ?_
  refine ARun.joinH (S := List Nat) (fun P1 : List Nat => [(6, .str (bytesOf P1)), (44, .any), (45, .any)]) (fun P1 : List Nat => [some ⟨swL S, Zac, 1, true, none⟩, some ⟨swL T, Zac, 1, true, none⟩]) (fun P1 : List Nat => P1.length ≤ 2 ∧ R = (P1 ++ (rtx T 1 ++ (pre1 (T 94) 94 ++ pre1 (T 45) 45)), 0)) (fun run => ?_) ?_
  · skip
    unfold setBody at p2
    refine ARun.cond rfl (fun y => ?_) (fun y => ?_)
    · skip
      rw [y] at p2
      refine ARun.region ?_; refine zzm ?_
      refine y_op rfl (OpQ.cast (d' := .str (bytesOf (P ++ [93]))) (Zal (s := bytesOf P) (t := bytesOf [93]) rfl rfl (by rw [bytesOf_size, bytesOf_size]; simp only [List.length_cons, List.length_nil]; omega)) (congrArg D.str (bytesOf_append P [93]).symm)) ?_
      refine zza ?_; refine AOps.nil ?_
      exact ARun.ag (run (P ++ [93]) (⟨by rw [List.length_append]; simp only [List.length_cons, List.length_nil]; omega, by rw [List.append_assoc]; exact p2⟩))
    rw [y] at p2
    refine ARun.skip ?_
    exact ARun.ag (run (P) (⟨Nat.le_succ_of_le p1, p2⟩))
  rintro P1 hj
  try dsimp only at hj ⊢
  obtain ⟨r1, r2⟩ := hj
  clear p1 p2
  have hrl := rtx_len T 1
  refine ARun.seq (ARun.region ?_); refine zzm ?_
  refine y_op rfl (Zab rfl rfl rfl rfl rfl rfl) ?_
  refine zzc rfl rfl (Zh1 T) ?_
  refine y_op rfl (OpQ.cast (d' := .str (bytesOf (P1 ++ rtx T 1))) (Zal (s := bytesOf P1) (t := bytesOf (rtx T 1)) rfl rfl (by rw [bytesOf_size, bytesOf_size]; omega)) (congrArg D.str (bytesOf_append P1 (rtx T 1)).symm)) ?_
  refine zza ?_; refine AOps.nil (ARun.seq (ARun.seq (ARun.region ?_)))
  refine y_op rfl (Zab rfl rfl rfl rfl rfl rfl) ?_
  refine zzc rfl rfl (ZaM T 94 (by decide)) ?_
  obtain ⟨P2, hP2⟩ : ∃ P2, P2 = P1 ++ rtx T 1 := ⟨_, rfl⟩
  rw [← hP2]
  have hl2 : P2.length ≤ 300 := by rw [hP2, List.length_append]; omega
  rw [← List.append_assoc, ← hP2] at r2
  clear hP2 hrl r1
  refine AOps.nil ?_
  refine ARun.joinH (S := List Nat) (fun P3 : List Nat => [(6, .str (bytesOf P3)), (52, .any), (53, .any)]) (fun P3 : List Nat => [some ⟨swL S, Zac, 1, true, none⟩, some ⟨swL T, Zac, 1, true, none⟩]) (fun P3 : List Nat => P3.length ≤ 301 ∧ R = (P3 ++ pre1 (T 45) 45, 0)) (fun run => ?_) ?_
  · skip
    refine ARun.cond rfl (fun y => ?_) (fun y => ?_)
    · skip
      rw [y] at r2
      refine ARun.region ?_; refine zzm ?_
      refine y_op rfl (OpQ.cast (d' := .str (bytesOf (P2 ++ [94]))) (Zal (s := bytesOf P2) (t := bytesOf [94]) rfl rfl (by rw [bytesOf_size, bytesOf_size]; simp only [List.length_cons, List.length_nil]; omega)) (congrArg D.str (bytesOf_append P2 [94]).symm)) ?_
      refine zza ?_; refine AOps.nil ?_
      exact ARun.ag (run (P2 ++ [94]) (⟨by rw [List.length_append]; simp only [List.length_cons, List.length_nil]; omega, by rw [List.append_assoc]; exact r2⟩))
    rw [y] at r2
    refine ARun.skip ?_
    exact ARun.ag (run (P2) (⟨Nat.le_succ_of_le hl2, r2⟩))
  rintro P3 hj
  try dsimp only at hj ⊢
  obtain ⟨u1, u2⟩ := hj
  clear r2 hl2
  refine ARun.seq (ARun.seq (ARun.region ?_))
  refine y_op rfl (Zab rfl rfl rfl rfl rfl rfl) ?_
  refine zzc rfl rfl (ZaM T 45 (by decide)) ?_
  refine AOps.nil ?_
  refine ARun.joinH (S := List Nat) (fun P4 : List Nat => [(6, .str (bytesOf P4)), (56, .any), (57, .any)]) (fun P4 : List Nat => [some ⟨swL S, Zac, 1, true, none⟩, some ⟨swL T, Zac, 1, true, none⟩]) (fun P4 : List Nat => R = (P4, 0)) (fun run => ?_) ?_
  · skip
    refine ARun.cond rfl (fun y => ?_) (fun y => ?_)
    · skip
      rw [y] at u2
      refine ARun.region ?_; refine zzm ?_
      refine y_op rfl (OpQ.cast (d' := .str (bytesOf (P3 ++ [45]))) (Zal (s := bytesOf P3) (t := bytesOf [45]) rfl rfl (by rw [bytesOf_size, bytesOf_size]; simp only [List.length_cons, List.length_nil]; omega)) (congrArg D.str (bytesOf_append P3 [45]).symm)) ?_
      refine zza ?_; refine AOps.nil ?_
      exact ARun.ag (run (P3 ++ [45]) (u2))
    rw [y] at u2
    refine ARun.skip ?_
    exact ARun.ag (run (P3) ((by rw [u2]; exact congrArg (fun x => (x, (0 : Int))) (List.append_nil P3))))
  rintro P4 hj
  try dsimp only at hj ⊢
  subst hj
  refine ARun.seq (ARun.region ?_); refine zzm ?_; refine zza ?_; refine zza ?_; refine AOps.nil ?_
  refine ARun.ret ?_
  refine ⟨_, _, _, .tmp rfl (.tmp rfl .nil), .cons (.same _) (.cons (.same _) .nil), rfl, ?_⟩
  rfl
end Go.V
set_option maxHeartbeats 8000000
set_option maxRecDepth 100000
set_option synthInstance.maxSize 100000
set_option synthInstance.maxHeartbeats 2000000
namespace Go.V
open Go.RowKit Go.Proofs
def slong (row len : Int) : Bool :=
  if len = 0 then decide (row > 0) else if row = 1 ∨ row = 5 then decide (len ≥ 1) && decide (len ≤ 7) else if row = 2 then decide (len = 3) || (decide (len ≥ 8) && decide (len ≤ 11)) else if row = 3 then decide (len = 3) else false
theorem Zh2 (row len : Int) : PC C ZhH [.int .i64 row, .int .i64 len] (fun o => o = .ret (.bool (slong row len))) := by
  obtain ⟨R, hR⟩ : ∃ R, R = slong row len := ⟨_, rfl⟩
  rw [← hR]
  unfold slong at hR
  refine PC.rn Ze8 Zhf Zhg (rs := [.tmp 4]) (by rw [Zhh]) ?_
  refine ARun.seq (ARun.region ?_); refine zza ?_; refine AOps.nil (ARun.seq (ARun.seq (ARun.region ?_))); refine zzm ?_; refine zzi ?_; refine AOps.nil ?_
  refine ARun.ite rfl (fun a => ?_) (fun a => ?_)
  · skip
    rw [if_pos a] at hR
    subst hR
    refine ARun.seq (ARun.region ?_); refine zzm ?_; refine zzi ?_; refine zza ?_; refine AOps.nil ?_
    refine ARun.ret ?_
    refine ⟨_, _, _, .tmp rfl .nil, .cons (.same _) .nil, rfl, ?_⟩
    rfl
  rw [if_neg a] at hR
  refine ARun.skip (ARun.seq (ARun.seq (ARun.region ?_))); refine zzm ?_; refine AOps.nil (ARun.block (ARun.seq (ARun.seq (ARun.region ?_)))); refine zzi ?_; refine zza ?_; refine AOps.nil ?_
  refine ARun.cond rfl (fun b => ?_) (fun b => ?_)
  · skip
    rw [if_pos (.inl (of_decide_eq_true b))] at hR
    subst hR
    rw [b]
    refine ARun.skip ?_
    refine ARun.condT rfl ?_
    refine ARun.seq (ARun.region ?_); refine zzm ?_; refine zzi ?_; refine zzm ?_
    apply AOps.andJ 15 (fun sj1 => [(15, .any), (16, .any), (17, .any), (18, .bool sj1)]) rfl
    · intro hj1 run1
      try replace hj1 := of_decide_eq_true hj1
      refine zzm ?_; refine zzi ?_; refine zzp ?_
      exact AOps.ag run1
    · intro hj1 run1
      try replace hj1 := of_decide_eq_false hj1
      refine zzk ?_; refine zzk ?_; refine zzp ?_
      exact AOps.ag run1
    refine zza ?_; refine AOps.nil ?_
    refine ARun.ret ?_
    refine ⟨_, _, _, .tmp rfl .nil, .cons (.same _) .nil, rfl, ?_⟩
    rfl
  have b' := of_decide_eq_false b
  clear b
  refine ARun.region ?_; refine zzi ?_; refine zza ?_; refine AOps.nil ?_
  refine ARun.cond rfl (fun d => ?_) (fun d => ?_)
  · skip
    rw [if_pos (.inr (of_decide_eq_true d))] at hR
    subst hR
    refine ARun.seq (ARun.region ?_); refine zzm ?_; refine zzi ?_; refine zzm ?_
    apply AOps.andJ 15 (fun sj2 => [(15, .any), (16, .any), (17, .any), (18, .bool sj2)]) rfl
    · intro hj2 run2
      try replace hj2 := of_decide_eq_true hj2
      refine zzm ?_; refine zzi ?_; refine zzp ?_
      exact AOps.ag run2
    · intro hj2 run2
      try replace hj2 := of_decide_eq_false hj2
      refine zzk ?_; refine zzk ?_; refine zzp ?_
      exact AOps.ag run2
    refine zza ?_; refine AOps.nil ?_
    refine ARun.ret ?_
    refine ⟨_, _, _, .tmp rfl .nil, .cons (.same _) .nil, rfl, ?_⟩
    rfl
  have d' := of_decide_eq_false d
  rw [if_neg (fun h => h.elim b' d')] at hR
  refine ARun.seq (ARun.region ?_); refine zzi ?_; refine zza ?_; refine AOps.nil ?_
  refine ARun.ite rfl (fun e => ?_) (fun e => ?_)
  · skip
    rw [if_pos e] at hR
    subst hR
    refine ARun.seq (ARun.region ?_); refine zzm ?_; refine zzi ?_; refine zzm ?_
    apply AOps.orJ 23 (fun sj3 => [(23, .any), (24, .any), (25, .any), (26, .any), (27, .any), (28, .any), (29, .any), (30, .bool sj3)]) rfl
    · intro hj3 run3
      try replace hj3 := of_decide_eq_true hj3
      refine zzk ?_; refine zzk ?_; refine zzk ?_; refine zzk ?_; refine zzk ?_; refine zzk ?_; refine zzp ?_
      exact AOps.ag run3
    · intro hj3 run3
      try replace hj3 := of_decide_eq_false hj3
      refine zzm ?_; refine zzi ?_; refine zzm ?_
      apply AOps.andJ 26 (fun sj4 => [(26, .any), (27, .any), (28, .any), (29, .bool sj4)]) rfl
      · intro hj4 run4
        try replace hj4 := of_decide_eq_true hj4
        refine zzm ?_; refine zzi ?_; refine zzp ?_
        exact AOps.ag run4
      · intro hj4 run4
        try replace hj4 := of_decide_eq_false hj4
        refine zzk ?_; refine zzk ?_; refine zzp ?_
        exact AOps.ag run4
      refine zzp ?_
      exact AOps.ag run3
    refine zza ?_; refine AOps.nil ?_
    refine ARun.ret ?_
    refine ⟨_, _, _, .tmp rfl .nil, .cons (.same _) .nil, rfl, ?_⟩
    rfl
  rw [if_neg e] at hR
  refine ARun.seq (ARun.region ?_); refine zzi ?_; refine zza ?_; refine AOps.nil ?_
  refine ARun.ite rfl (fun f => ?_) (fun f => ?_)
  · skip
    rw [if_pos f] at hR
    subst hR
    refine ARun.seq (ARun.region ?_); refine zzm ?_; refine zzi ?_; refine zza ?_; refine AOps.nil ?_
    refine ARun.ret ?_
    refine ⟨_, _, _, .tmp rfl .nil, .cons (.same _) .nil, rfl, ?_⟩
    rfl
  rw [if_neg f] at hR
  subst hR
  refine ARun.skip (ARun.inBlock (ARun.seq (ARun.region ?_))); refine zza ?_; refine AOps.nil ?_
  refine ARun.ret ?_
  refine ⟨_, _, _, .tmp rfl .nil, .cons (.same _) .nil, rfl, ?_⟩
  rfl
def slit (s : ByteArray) : Bool := decide (0 < s.size) && (sby s).all splain
theorem slit_no {s : ByteArray} {i : Nat} (hi : i < s.size) (h : splain ((sby s).getD i 0) = false) : slit s = false := by
  unfold slit
  rw [Bool.and_eq_false_iff]; right
  rw [Bool.eq_false_iff]
  intro h2
  rw [List.all_eq_true] at h2
  have hl := sby_len s
  have hm : (sby s).getD i 0 ∈ sby s := by rw [List.getD_eq_getElem?_getD, List.getElem?_eq_getElem (by omega)]; exact List.getElem_mem _
  rw [h2 _ hm] at h; cases h
theorem slit_yes {s : ByteArray} (h : ∀ i, i < s.size → splain ((sby s).getD i 0) = true) : slit s = decide (0 < s.size) := by
  unfold slit
  have : (sby s).all splain = true := List.all_eq_true.2 fun x hx => by
    obtain ⟨j, hj, rfl⟩ := List.getElem_of_mem hx
    have hl := sby_len s
    have := h j (by omega)
    rw [List.getD_eq_getElem?_getD, List.getElem?_eq_getElem hj] at this
    exact this
  rw [this, Bool.and_true]
theorem splain_or (c : Nat) : (decide (c = 0) || decide (c = 37) || swhite c) = !splain c := by
  unfold splain
  simp only [Bool.not_and, decide_not, Bool.not_not, Bool.or_assoc]
theorem ZgG (s : ByteArray) (hmax : s.size ≤ 1099511627776) : PC C Zf9 [.str s] (fun o => o = .ret (.bool (slit s))) := by
  obtain ⟨R, hR⟩ : ∃ R, R = slit s := ⟨_, rfl⟩
  rw [← hR]
  refine PC.rn Zda ZfA ZfB (rs := [.tmp 2]) (by rw [ZfC]) ?_
  refine ARun.seq (ARun.region ?_); refine zza ?_; refine AOps.nil (ARun.seq (ARun.seq (ARun.region ?_))); refine zza ?_; refine AOps.nil (ARun.block ?_)
  refine ARun.loopI (S := Nat) (fun i : Nat => [(2, .any), (4, .any), (5, .any), (6, .any), (7, .any), (8, .any), (9, .any), (10, .any), (11, .any), (12, .any), (13, .any), (14, .any), (15, .any), (16, .any), (17, .any), (18, .any), (19, .any), (20, .any), (21, .any), (22, .any), (23, .any), (24, .any), (25, .any), (3, .int .i64 (i : Int))]) (fun i : Nat => []) (fun i : Nat => i ≤ s.size ∧ ∀ j, j < i → splain ((sby s).getD j 0) = true) (fun i : Nat => s.size - i) (0) ?_ ?_ ?_ ?_
  · exact ⟨Nat.zero_le _, fun j h => absurd h (Nat.not_lt_zero j)⟩
  · (repeat' first | exact envLe_nil | apply envLe_any | apply envLe_same)
  · rfl
  rintro i hinv ih
  obtain ⟨i1, i2⟩ := hinv
  refine ARun.seq (ARun.seq (ARun.region ?_)); refine zzm ?_; refine zzm ?_
  refine y_op rfl (Zag rfl rfl) ?_
  refine zzi ?_; refine AOps.nil ?_
  refine ARun.ite rfl (fun g => ?_) (fun g => ?_)
  · skip
    have g : i < s.size := by omega
    refine ARun.skip (ARun.seq (ARun.block (ARun.seq (ARun.region ?_)))); refine zzm ?_; refine zzm ?_
    refine y_op rfl (Zai rfl rfl rfl (by omega) (by omega) (sby_get _)) ?_
    refine y_op rfl (OpQ.cast (q_int rfl rfl rfl) (congrArg D.bool (int_dec (m := 0) rfl))) ?_
    refine zzm ?_
    apply AOps.orJ 14 (fun sj1 => [(14, .any), (15, .any), (16, .any), (17, .any), (18, .any), (19, .bool sj1)]) rfl
    · intro hj1 run1
      try replace hj1 := of_decide_eq_true hj1
      refine zzk ?_; refine zzk ?_; refine zzk ?_; refine zzk ?_; refine zzp ?_
      exact AOps.ag run1
    · intro hj1 run1
      try replace hj1 := of_decide_eq_false hj1
      refine zzm ?_; refine zzm ?_
      refine y_op rfl (Zai rfl rfl rfl (by omega) (by omega) (sby_get _)) ?_
      refine y_op rfl (OpQ.cast (q_int rfl rfl rfl) (congrArg D.bool (int_dec (m := 37) rfl))) ?_
      refine zzp ?_
      exact AOps.ag run1
    refine zzm ?_
    apply AOps.orJ 20 (fun sj2 => [(20, .any), (21, .any), (22, .any), (23, .any), (24, .any), (25, .bool sj2)]) rfl
    · intro hj2 run2
      try replace hj2 := of_decide_eq_true hj2
      refine zzk ?_; refine zzk ?_; refine zzk ?_; refine zzk ?_; refine zzp ?_
      exact AOps.ag run2
    · intro hj2 run2
      try replace hj2 := of_decide_eq_false hj2
      refine zzm ?_; refine zzm ?_
      refine y_op rfl (Zai rfl rfl rfl (by omega) (by omega) (sby_get _)) ?_
      refine zzc rfl rfl (ZhI ((sby s).getD i 0)) ?_
      refine zzp ?_
      exact AOps.ag run2
    refine AOps.nil ?_
    rw [splain_or]
    refine ARun.cond rfl (fun y => ?_) (fun y => ?_)
    · skip
      have y : splain ((sby s).getD i 0) = false := by simpa using y
      rw [slit_no g y] at hR
      subst hR
      refine ARun.seq (ARun.region ?_); refine zza ?_; refine AOps.nil ?_
      refine ARun.ret ?_
      refine ⟨_, _, _, .tmp rfl .nil, .cons (.same _) .nil, rfl, ?_⟩
      rfl
    have y : splain ((sby s).getD i 0) = true := by simpa using y
    refine ARun.skip (ARun.inBlock (ARun.region ?_)); refine zzm ?_
    refine y_op rfl (q_add rfl rfl (nadd1_i64 (by omega))) ?_
    refine zza ?_; refine AOps.nil ?_
    refine ARun.again (ih (i + 1) ?_ ?_) ?_ ?_
    · exact ⟨g, fun j hj => (Nat.lt_or_eq_of_le (Nat.le_of_lt_succ hj)).elim (i2 j) (fun e => by rw [e]; exact y)⟩
    · omega
    · (repeat' first | exact envLe_nil | apply envLe_any | apply envLe_same)
    rfl
  obtain rfl : i = s.size := by omega
  rw [slit_yes i2] at hR
  subst hR
  refine ARun.exit rfl ?_
  refine ARun.seq (ARun.region ?_); refine zzm ?_
  refine y_op rfl (Zag rfl rfl) ?_
  refine y_op rfl (OpQ.cast (d' := .bool (decide (0 < s.size))) (q_int rfl rfl rfl) (congrArg D.bool (decide_eq_decide.2 (by omega)))) ?_
  refine zza ?_; refine AOps.nil ?_
  refine ARun.ret ?_
  refine ⟨_, _, _, .tmp rfl .nil, .cons (.same _) .nil, rfl, ?_⟩
  rfl
end Go.V
