/- A part of the proof: abstract values, rules for the steps of the program's form, and contracts of its functions, each proved; no condition. -/
import Derived.Test.YthankfodgdfgaaaDoorA12
set_option linter.unusedVariables false
set_option linter.unusedSimpArgs false
set_option linter.unnecessarySimpa false
set_option maxHeartbeats 8000000
set_option maxRecDepth 100000
set_option synthInstance.maxSize 100000
set_option synthInstance.maxHeartbeats 2000000
namespace Go.V
open Go.RowKit Go.Proofs
theorem hdIs_len {r : List Nat} {c : Nat} (h : hdIs r c = true) : 0 < r.length := by
  cases r with
  | nil => cases h
  | cons a r => exact Nat.succ_pos _
theorem drop_drop1 (l : List Nat) (i : Nat) : (l.drop i).drop 1 = l.drop (i + 1) := List.drop_drop ..
theorem Zhn (H : Heap) (k : Nat) (s : ByteArray) (i n : Nat) (w pl : Bool) (hk : H[k]? = some (rdS s i n w pl)) (hi : i ≤ s.size) (hmax : s.size ≤ 1099511627776) : HC C ZbJ H [.ptr k 0] (fun x H' => x = .ret (.tup [.int .i64 (((argL ((sby s).drop i)).1 : Nat) : Int), .bool (argL ((sby s).drop i)).2.1]) ∧ H' = H.set k (rdS s (s.size - (argL ((sby s).drop i)).2.2.2.length) n (w || (argL ((sby s).drop i)).2.2.1) pl)) := by
  obtain ⟨r, hr⟩ : ∃ r, r = (sby s).drop i := ⟨_, rfl⟩
  have hl := sby_len s
  have hrl : r.length = s.size - i := by rw [hr, List.length_drop, hl]
  obtain ⟨R, hR⟩ : ∃ R, R = argL r := ⟨_, rfl⟩
  have hN := ZgM H k s i n w pl hk hi hmax
  have hI := hc_is H k s i n 42 w pl hk hmax
  have hdl := dgL_le 0 r (by decide)
  have hsuf : (sby s).drop (s.size - (dgL 0 r).2.length) = (dgL 0 r).2 := by
    obtain ⟨u, hu⟩ := dgL_suf 0 r
    have := (suf_drop (by omega) (hr.symm.trans hu)).1
    rwa [hl] at this
  rw [← hr] at hN hI ⊢
  rw [← hR]
  unfold argL at hR
  generalize dgL 0 r = d at *
  refine HC.run ZaJ ZbG rfl ZbH (rs := [.tmp 2, .tmp 3]) (by rw [ZbI]) (by simp only [List.length_cons, List.length_nil, Nat.reduceAdd, Nat.reduceSub, List.replicate_succ, List.replicate_zero, List.cons_append, List.nil_append]; exact rfl) ?_
  refine ARun.seq (ARun.region ?_); refine zza ?_; refine zza ?_; refine AOps.nil (ARun.seq (ARun.seq (ARun.region ?_))); refine zzm ?_
  refine y_op rfl (q_nil rfl rfl) ?_
  refine y_op rfl (q_fldP rfl rfl rfl (by decide)) ?_
  refine y_op rfl (Zdu rfl rfl rfl hI) ?_
  refine AOps.nil ?_
  refine ARun.cond rfl (fun a => ?_) (fun a => ?_)
  · skip
    have hp := hdIs_len a
    rw [a, cond_true] at hR
    subst hR
    refine ARun.seq (ARun.region ?_); refine zzm ?_
    refine y_op rfl (q_nil rfl rfl) ?_
    refine y_op rfl (q_fldP rfl rfl rfl (by decide)) ?_
    refine y_op rfl (q_fldP rfl rfl rfl (by decide)) ?_
    refine y_op rfl (Zaa rfl rfl rfl hk rfl) ?_
    refine y_op rfl (OpQ.cast (d' := .int .i64 ((i + 1 : Nat) : Int)) (q_int rfl rfl rfl) (congrArg (D.int .i64) (by show IntKind.i64.wrap _ = _; rw [IntWalk.i64_in _ (by omega)]; omega))) ?_
    refine y_op rfl (q_nil rfl rfl) ?_
    refine y_op rfl (q_fldP rfl rfl rfl (by decide)) ?_
    refine y_op rfl (q_fldP rfl rfl rfl (by decide)) ?_
    refine y_new rfl (Zad rfl rfl rfl rfl hk rfl (Nat.le_of_ble_eq_true rfl) rfl) ?_
    refine AOps.nil (ARun.seq (ARun.region ?_)); refine zza ?_; refine zza ?_; refine AOps.nil ?_
    refine ARun.ret ?_
    exact ⟨_, _, _, .tmp rfl (.tmp rfl .nil), .cons (.same _) (.cons (.same _) .nil), rfl, by show H.set k (rdS _ _ _ _ _) = H.set k (rdS _ _ _ _ _); rw [List.length_drop, Bool.or_false, show s.size - (r.length - 1) = i + 1 by omega]⟩
  rw [a, cond_false] at hR
  refine ARun.skip (ARun.seq (ARun.region ?_)); refine zzm ?_
  refine y_op rfl (q_nil rfl rfl) ?_
  refine y_op rfl (q_fldP rfl rfl rfl (by decide)) ?_
  refine y_op rfl (q_fldP rfl rfl rfl (by decide)) ?_
  refine y_op rfl (Zaa rfl rfl rfl hk rfl) ?_
  refine zza ?_; refine AOps.nil (ARun.seq (ARun.seq (ARun.region ?_))); refine zzm ?_
  refine y_op rfl (q_nil rfl rfl) ?_
  refine y_op rfl (q_fldP rfl rfl rfl (by decide)) ?_
  refine Zah rfl rfl rfl rfl hN ?_ (by rintro _ _ ⟨h, _⟩; cases h)
  rintro q1 H1 ⟨e1, rfl⟩
  injection e1 with e1
  subst e1
  have hk1 : (H.set k (rdS s (s.size - d.2.length) n w pl))[k]? = some (rdS s (s.size - d.2.length) n w pl) := heap_set_get hk
  have hI2 := hc_is _ k s (s.size - d.2.length) n 36 w pl hk1 hmax
  rw [hsuf] at hI2
  refine zza ?_; refine AOps.nil (ARun.seq (ARun.region ?_)); refine zzm ?_
  refine y_op rfl (OpQ.cast (d' := .bool (decide (0 < d.1))) (q_int rfl rfl rfl) (congrArg D.bool (decide_eq_decide.2 (by omega)))) ?_
  refine zzm ?_
  apply AOps.andJ 29 (fun sj1 => [(29, .any), (30, .any), (31, .any), (32, .any), (33, .any), (34, .bool sj1)]) rfl
  · intro hj1 run1
    try replace hj1 := of_decide_eq_true hj1
    refine zzm ?_
    refine y_op rfl (q_nil rfl rfl) ?_
    refine y_op rfl (q_fldP rfl rfl rfl (by decide)) ?_
    refine y_op rfl (Zdu rfl rfl rfl hI2) ?_
    refine zzp ?_
    exact AOps.ag run1
  · intro hj1 run1
    try replace hj1 := of_decide_eq_false hj1
    refine zzk ?_; refine zzk ?_; refine zzk ?_; refine zzk ?_; refine zzp ?_
    exact AOps.ag run1
  refine AOps.nil ?_
  refine ARun.cond rfl (fun b => ?_) (fun b => ?_)
  · skip
    have hp := hdIs_len (Bool.and_eq_true _ _ ▸ b : _ ∧ _).2
    rw [b, cond_true] at hR
    subst hR
    refine ARun.seq (ARun.region ?_); refine zzm ?_
    refine y_op rfl (q_nil rfl rfl) ?_
    refine y_op rfl (q_fldP rfl rfl rfl (by decide)) ?_
    refine y_op rfl (q_fldP rfl rfl rfl (by decide)) ?_
    refine y_op rfl (Zaa rfl rfl rfl hk1 rfl) ?_
    refine y_op rfl (OpQ.cast (d' := .int .i64 ((s.size - d.2.length + 1 : Nat) : Int)) (q_int rfl rfl rfl) (congrArg (D.int .i64) (by show IntKind.i64.wrap _ = _; rw [IntWalk.i64_in _ (by omega)]; omega))) ?_
    refine y_op rfl (q_nil rfl rfl) ?_
    refine y_op rfl (q_fldP rfl rfl rfl (by decide)) ?_
    refine y_op rfl (q_fldP rfl rfl rfl (by decide)) ?_
    refine y_new rfl (Zad rfl rfl rfl rfl hk1 rfl (Nat.le_of_ble_eq_true rfl) rfl) ?_
    refine AOps.nil (ARun.seq (ARun.region ?_)); refine zzm ?_
    refine y_op rfl (q_nil rfl rfl) ?_
    refine y_op rfl (q_fldP rfl rfl rfl (by decide)) ?_
    refine y_new rfl (Zad rfl rfl rfl rfl (heap_set_get hk1) rfl (Nat.le_of_ble_eq_true rfl) rfl) ?_
    refine AOps.nil (ARun.seq (ARun.region ?_)); refine zzm ?_; refine zza ?_; refine zza ?_; refine AOps.nil ?_
    refine ARun.ret ?_
    exact ⟨_, _, _, .tmp rfl (.tmp rfl .nil), .cons (.same _) (.cons (.same _) .nil), rfl, by show List.set _ k (rdS _ _ _ _ _) = H.set k (rdS _ _ _ _ _); rw [List.set_set, List.set_set, List.length_drop, Bool.or_true, show s.size - (d.2.length - 1) = s.size - d.2.length + 1 by omega]⟩
  rw [b, cond_false] at hR
  subst hR
  refine ARun.skip (ARun.seq (ARun.region ?_)); refine zzm ?_; refine zzm ?_
  refine y_op rfl (q_nil rfl rfl) ?_
  refine y_op rfl (q_fldP rfl rfl rfl (by decide)) ?_
  refine y_op rfl (q_fldP rfl rfl rfl (by decide)) ?_
  refine y_new rfl (Zad rfl rfl rfl rfl hk1 rfl (Nat.le_of_ble_eq_true rfl) rfl) ?_
  refine AOps.nil (ARun.seq (ARun.region ?_)); refine zza ?_; refine zza ?_; refine AOps.nil ?_
  refine ARun.ret ?_
  exact ⟨_, _, _, .tmp rfl (.tmp rfl .nil), .cons (.same _) (.cons (.same _) .nil), rfl, by show List.set _ k (rdS _ _ _ _ _) = H.set k (rdS _ _ _ _ _); rw [List.set_set, Bool.or_false, show s.size - r.length = i by omega]⟩
theorem isPre_lens {s : ByteArray} {i k : Nat} (hk : k < 12) (hi : i ≤ s.size) : isPre (s.extract i s.size) (bytesOf (lenAt k)) = decide (((sby s).drop i).take (lenAt k).length = lenAt k) := by
  unfold isPre
  rw [bytesOf_size, sby_lens hk]
  have : sby (s.extract i s.size) = (sby s).drop i := by
    have h := sby_ext2 s i (s.size - i)
    rw [show i + (s.size - i) = s.size by omega] at h
    rw [h, List.take_of_length_le (by rw [List.length_drop, sby_len]; exact Nat.le_refl _)]
  rw [this]
theorem Zic (H : Heap) (k : Nat) (s : ByteArray) (i n : Nat) (w pl : Bool) (hk : H[k]? = some (rdS s i n w pl)) (hi : i ≤ s.size) (hmax : s.size ≤ 2000) : HC Cg Zcj H [.ptr k 0] (fun x H' => x = .ret (.int .i64 ((modL ((sby s).drop i) : Nat) : Int)) ∧ H' = H.set k (rdS s (i + (lenAt (modL ((sby s).drop i))).length) n w pl)) := by
  obtain ⟨r, hr⟩ : ∃ r, r = (sby s).drop i := ⟨_, rfl⟩
  rw [← hr]
  obtain ⟨R, hR⟩ : ∃ R, R = modL r := ⟨_, rfl⟩
  rw [← hR]
  unfold modL at hR
  refine HC.run ZaU ZbX rfl ZbY (rs := [.tmp 2]) (by rw [ZbZ]) (by simp only [List.length_cons, List.length_nil, Nat.reduceAdd, Nat.reduceSub, List.replicate_succ, List.replicate_zero, List.cons_append, List.nil_append]; exact rfl) ?_
  refine ARun.seq (ARun.region ?_); refine zza ?_; refine AOps.nil (ARun.seq (ARun.region ?_)); refine zza ?_; refine AOps.nil (ARun.seq (ARun.seq (ARun.region ?_))); refine zzL ?_; refine zzm ?_; refine AOps.nil (ARun.block ?_)
  refine ARun.loopI (S := Nat × Nat) (fun σ : Nat × Nat => [(3, .int .i64 (σ.2 : Int)), (4, .any), (5, .any), (7, .int .i64 (σ.1 : Int)), (8, .any), (9, .any), (10, .any), (11, .any), (12, .any), (13, .any), (14, .any), (15, .any), (16, .any), (17, .any), (18, .any), (19, .any), (20, .any), (21, .any), (22, .any), (23, .any), (24, .any), (25, .any), (26, .any), (27, .any), (28, .any), (29, .any), (30, .any), (31, .any), (32, .any), (33, .any), (34, .any)]) (fun σ : Nat × Nat => H) (fun σ : Nat × Nat => σ.1 ≤ 12 ∧ σ.2 < 12 ∧ R = mF r (12 - σ.1) σ.1 σ.2) (fun σ : Nat × Nat => 12 - σ.1) ((0, 0)) ?_ ?_ ?_ ?_
  · exact ⟨Nat.zero_le _, by decide, hR⟩
  · (repeat' first | exact envLe_nil | apply envLe_any | apply envLe_same)
  · rfl
  rintro ⟨j, b⟩ hinv ih
  dsimp only at hinv ih ⊢
  obtain ⟨j1, j2, j3⟩ := hinv
  refine ARun.seq (ARun.region ?_); refine zzi ?_; refine AOps.nil (ARun.seq ?_)
  refine ARun.ite rfl (fun g => ?_) (fun g => ?_)
  · skip
    have g : j < 12 := by omega
    have hgj := lensA_get j g
    have hgb := lensA_get b j2
    have hpre := isPre_lens (s := s) g hi
    rw [← hr] at hpre
    have hj2 : (lenAt j).length ≤ 2 := lensN_len j
    have hb2 : (lenAt b).length ≤ 2 := lensN_len b
    rw [show 12 - j = (12 - (j + 1)) + 1 by omega, mF] at j3
    have eJ : lensN.getD j [] = lenAt j := rfl
    have eB : lensN.getD b [] = lenAt b := rfl
    rw [eJ] at hgj
    rw [eB] at hgb
    obtain ⟨K, hK⟩ : ∃ K, K = lenAt j := ⟨_, rfl⟩
    obtain ⟨M, hM⟩ : ∃ M, M = lenAt b := ⟨_, rfl⟩
    rw [← hK] at hgj hj2 j3 hpre
    rw [← hM] at hgb hb2 j3
    clear eJ eB hK hM
    refine ARun.skip (ARun.seq (ARun.block (ARun.seq (ARun.region ?_)))); refine zzm ?_
    refine y_op rfl (Zib (j := j) rfl rfl rfl rfl rfl (by omega) (by omega) (by rw [Int.toNat_natCast]; exact Nat.mul_one _) (show lensA[j]? = _ by rw [List.getElem?_drop, Nat.mul_one, Nat.add_zero] at hgj; exact hgj)) ?_
    refine zza ?_; refine zza ?_; refine AOps.nil (ARun.seq ?_)
    refine ARun.joinH (S := Bool) (fun q : Bool => [(11, .any), (12, .any), (13, .any), (14, .any), (15, .any), (16, .any), (17, .any), (18, .any), (19, .any), (20, .any), (21, .any), (22, .any), (23, .any), (24, .any), (25, .any), (26, .any), (27, .any), (28, .any), (29, .any), (30, .any), (31, .any), (32, .bool q)]) (fun q : Bool => H) (fun q : Bool => q = decide (M.length < K.length ∧ r.take K.length = K)) (fun run => ?_) ?_
    · skip
      by_cases c1 : M.length < K.length
      · rw [show decide (M.length < K.length ∧ r.take K.length = K) = decide (r.take K.length = K) from decide_eq_decide.2 ⟨fun h => h.2, fun h => ⟨c1, h⟩⟩] at run
        refine ARun.drawnP 22 (fun _ => False) mixC rfl rfl (by kernel_rfl) (fun _ _ h => h.elim) ?_
        refine .op rfl (q_move rfl) ?_
        refine .op rfl (Zag rfl rfl) ?_
        refine .op rfl (q_move rfl) ?_
        refine .op rfl (ZbA rfl rfl rfl rfl (by omega) (by omega) rfl) ?_
        refine .op rfl (q_load rfl rfl rfl hgb) ?_
        refine .op rfl (Zag rfl rfl) ?_
        refine .op rfl (OpQ.cast (d' := .bool true) (q_int rfl rfl rfl) (congrArg D.bool (decide_eq_true (by rw [bytesOf_size, bytesOf_size]; omega)))) ?_
        refine .op rfl (q_move rfl) ?_
        refine .op rfl (q_move rfl) ?_
        refine .op rfl (q_nil rfl rfl) ?_
        refine .op rfl (q_fldP rfl rfl rfl (by decide)) ?_
        refine .op rfl (q_fldP rfl rfl rfl (by decide)) ?_
        refine .op rfl (Zaa rfl rfl rfl hk rfl) ?_
        refine .op rfl (q_move rfl) ?_
        refine .op rfl (q_nil rfl rfl) ?_
        refine .op rfl (q_fldP rfl rfl rfl (by decide)) ?_
        refine .op rfl (q_fldP rfl rfl rfl (by decide)) ?_
        refine .op rfl (Zaa rfl rfl rfl hk rfl) ?_
        refine .op rfl (Zbj (lo := i) (hi := s.size) rfl rfl (bnd_nat (n := i) rfl rfl) rfl hi (Nat.le_refl _)) ?_
        refine .op rfl (q_move rfl) ?_
        refine .op rfl (OpQ.cast (d' := .bool (decide (r.take K.length = K))) (q_call rfl rfl (PC.g (ZgE (s.extract i s.size) (bytesOf K) (by rw [ByteArray.size_extract]; omega) (by rw [bytesOf_size]; omega)))) (congrArg D.bool hpre)) ?_
        refine .op rfl (q_pick rfl rfl rfl rfl) ?_
        refine .nil (fun hG => ?_)
        refine AOps.nil ?_
        exact ARun.ag (run (decide (r.take K.length = K)) (rfl))
      rw [show decide (M.length < K.length ∧ r.take K.length = K) = false from decide_eq_false fun h => c1 h.1] at run
      refine ARun.drawnP 22 (fun _ => False) mixC rfl rfl (by kernel_rfl) (fun _ _ h => h.elim) ?_
      refine .op rfl (q_move rfl) ?_
      refine .op rfl (Zag rfl rfl) ?_
      refine .op rfl (q_move rfl) ?_
      refine .op rfl (ZbA rfl rfl rfl rfl (by omega) (by omega) rfl) ?_
      refine .op rfl (q_load rfl rfl rfl hgb) ?_
      refine .op rfl (Zag rfl rfl) ?_
      refine .op rfl (OpQ.cast (d' := .bool false) (q_int rfl rfl rfl) (congrArg D.bool (decide_eq_false (by rw [bytesOf_size, bytesOf_size]; omega)))) ?_
      refine .op rfl (q_move rfl) ?_
      refine .skip rfl ?_
      refine .skip rfl ?_
      refine .skip rfl ?_
      refine .skip rfl ?_
      refine .skip rfl ?_
      refine .skip rfl ?_
      refine .skip rfl ?_
      refine .skip rfl ?_
      refine .skip rfl ?_
      refine .skip rfl ?_
      refine .skip rfl ?_
      refine .skip rfl ?_
      refine .skip rfl ?_
      refine .op rfl (q_pick rfl rfl rfl rfl) ?_
      refine .nil (fun hG => ?_)
      refine AOps.nil ?_
      exact ARun.ag (run (false) (rfl))
    rintro q hj
    try dsimp only at hj ⊢
    subst hj
    refine ARun.ite rfl (fun y => ?_) (fun y => ?_)
    · skip
      rw [if_pos y] at j3
      refine ARun.region ?_; refine zzm ?_; refine zza ?_; refine AOps.nil (ARun.inBlock (ARun.region ?_))
      refine y_op rfl (OpQ.cast (d' := .int .i64 ((j + 1 : Nat) : Int)) (q_int rfl rfl rfl) (congrArg (D.int .i64) (by show IntKind.i64.wrap _ = _; rw [IntWalk.i64_in _ (by omega)]; omega))) ?_
      refine zzm ?_; refine AOps.nil ?_
      refine ARun.again (ih ((j + 1, j)) ?_ ?_) ?_ ?_
      · exact ⟨g, g, j3⟩
      · (dsimp only; omega)
      · (repeat' first | exact envLe_nil | apply envLe_any | apply envLe_same)
      rfl
    rw [if_neg y] at j3
    refine ARun.skip (ARun.inBlock (ARun.region ?_))
    refine y_op rfl (OpQ.cast (d' := .int .i64 ((j + 1 : Nat) : Int)) (q_int rfl rfl rfl) (congrArg (D.int .i64) (by show IntKind.i64.wrap _ = _; rw [IntWalk.i64_in _ (by omega)]; omega))) ?_
    refine zzm ?_; refine AOps.nil ?_
    refine ARun.again (ih ((j + 1, b)) ?_ ?_) ?_ ?_
    · exact ⟨g, j2, j3⟩
    · (dsimp only; omega)
    · (repeat' first | exact envLe_nil | apply envLe_any | apply envLe_same)
    rfl
  obtain rfl : j = 12 := by omega
  have j3 : R = b := j3
  subst j3
  have hgb := lensA_get R j2
  have hb2 : (lenAt R).length ≤ 2 := lensN_len R
  rw [show lensN.getD R [] = lenAt R from rfl] at hgb
  refine ARun.exit rfl ?_
  refine ARun.seq ?_
  refine ARun.drawnP 10 (fun _ => False) mixC rfl rfl (by kernel_rfl) (fun _ _ h => h.elim) ?_
  refine .op rfl (q_move rfl) ?_
  refine .op rfl (q_nil rfl rfl) ?_
  refine .op rfl (q_fldP rfl rfl rfl (by decide)) ?_
  refine .op rfl (q_fldP rfl rfl rfl (by decide)) ?_
  refine .op rfl (Zaa rfl rfl rfl hk rfl) ?_
  refine .op rfl (q_move rfl) ?_
  refine .op rfl (ZbA rfl rfl rfl rfl (by omega) (by omega) rfl) ?_
  refine .op rfl (q_load rfl rfl rfl hgb) ?_
  refine .op rfl (Zag rfl rfl) ?_
  refine .op rfl (OpQ.cast (d' := .int .i64 ((i + (lenAt R).length : Nat) : Int)) (q_int rfl rfl rfl) (congrArg (D.int .i64) (by show IntKind.i64.wrap _ = _; rw [bytesOf_size, IntWalk.i64_in _ (by omega)]; omega))) ?_
  refine .nil (fun hG => ?_)
  refine y_op rfl (q_nil rfl rfl) ?_
  refine y_op rfl (q_fldP rfl rfl rfl (by decide)) ?_
  refine y_op rfl (q_fldP rfl rfl rfl (by decide)) ?_
  refine y_new rfl (Zad rfl rfl rfl rfl hk rfl (Nat.le_of_ble_eq_true rfl) rfl) ?_
  refine AOps.nil (ARun.seq (ARun.region ?_)); refine zzm ?_; refine zza ?_; refine AOps.nil ?_
  refine ARun.ret ?_
  exact ⟨_, _, _, .tmp rfl .nil, .cons (.same _) .nil, rfl, rfl⟩
end Go.V
set_option maxHeartbeats 8000000
set_option maxRecDepth 100000
set_option synthInstance.maxSize 100000
set_option synthInstance.maxHeartbeats 2000000
namespace Go.V
open Go.RowKit Go.Proofs
def Kp (H H' : Heap) (k : Nat) : Prop := H.length ≤ H'.length ∧ ∀ j, j < H.length → j ≠ k → H'[j]? = H[j]?
theorem Kp.refl (H : Heap) (k : Nat) : Kp H H k := ⟨Nat.le_refl _, fun _ _ _ => rfl⟩
theorem Kp.trans {A B C : Heap} {k : Nat} (h : Kp A B k) (g : Kp B C k) : Kp A C k := ⟨Nat.le_trans h.1 g.1, fun j h1 h2 => (g.2 j (Nat.lt_of_lt_of_le h1 h.1) h2).trans (h.2 j h1 h2)⟩
theorem Kp.app {H M : Heap} {k : Nat} : Kp H (H ++ M) k := ⟨by simp, fun j h1 _ => List.getElem?_append_left h1⟩
theorem Kp.set {H : Heap} {k : Nat} {x : Option AObj} : Kp H (H.set k x) k := ⟨by simp, fun j _ h2 => List.getElem?_set_ne (fun e => h2 e.symm)⟩
theorem Kp.put {H H' : Heap} {k i : Nat} {x : Option AObj} (h : Kp H H' k) (hi : H.length ≤ i) : Kp H (H'.set i x) k := ⟨by rw [List.length_set]; exact h.1, fun j h1 h2 => by rw [List.getElem?_set_ne (by omega)]; exact h.2 j h1 h2⟩
theorem hc_bad (H : Heap) (i : Nat) : HC C Zfr H [.int .i64 (i : Int)] (fun x H' => x = .pan (wrongP 6 i) ∧ H' = H) := by
  refine HC.run ZcN ZeT rfl ZeU (rs := []) (by rw [ZeV]) (by simp only [List.length_cons, List.length_nil, Nat.reduceAdd, Nat.reduceSub, List.replicate_succ, List.replicate_zero, List.cons_append, List.nil_append]; exact rfl) ?_
  refine ARun.region ?_; refine zzm ?_
  refine y_op rfl (Za9 rfl rfl rfl rfl rfl) ?_
  refine y_op rfl (Zgh rfl rfl rfl) ?_
  exact ZhT rfl rfl ⟨_, _, .same _, rfl, rfl⟩
theorem runL_ext {s : ByteArray} {fn : Nat → Bool} {i j : Nat} (hi : i ≤ j) (hj : j ≤ s.size) (h : (runL fn ((sby s).drop i)).2 = (sby s).drop j) : s.extract i j = bytesOf (runL fn ((sby s).drop i)).1 := by
  have ha := runL_app fn ((sby s).drop i)
  have hl := sby_len s
  have e : (runL fn ((sby s).drop i)).1 = ((sby s).drop i).take (j - i) := by
    have h2 := congrArg List.length ha
    rw [h, List.length_append, List.length_drop, List.length_drop, hl] at h2
    conv => rhs; rw [← ha]
    rw [List.take_append_of_le_length (by omega), List.take_of_length_le (by omega)]
  rw [e, ← sby_ext2 s i (j - i), show i + (j - i) = j by omega, bytesOf_sby]
theorem runL_at {s : ByteArray} {fn : Nat → Bool} {j : Nat} (h : j < s.size) : runL fn ((sby s).drop j) = bif fn ((sby s).getD j 0) then ((sby s).getD j 0 :: (runL fn ((sby s).drop (j + 1))).1, (runL fn ((sby s).drop (j + 1))).2) else ([], (sby s).drop j) := by
  conv => lhs; rw [drop_getD (sby s) j 0 (by rw [sby_len]; exact h)]
  rw [runL, ← drop_getD (sby s) j 0 (by rw [sby_len]; exact h)]
theorem hc_run (H : Heap) (k : Nat) (s : ByteArray) (i n : Nat) (w pl : Bool) (hk : H[k]? = some (rdS s i n w pl)) (hi : i ≤ s.size) (hmax : s.size ≤ 1099511627776) (f : FuncId) (fn : Nat → Bool) (hf : ∀ c : Nat, PC C f [.int .u8 (c : Int)] (fun o => o = .ret (.bool (fn c)))) :
    HC C ZcQ H [.ptr k 0, .clos f []] (fun x H' => x = .ret (.str (bytesOf (runL fn ((sby s).drop i)).1)) ∧ H' = H.set k (rdS s (s.size - (runL fn ((sby s).drop i)).2.length) n w pl)) := by
  have hl := sby_len s
  refine HC.run Zbh ZcF rfl ZcG (rs := [.tmp 4]) (by rw [ZcH]) (by simp only [List.length_cons, List.length_nil, Nat.reduceAdd, Nat.reduceSub, List.replicate_succ, List.replicate_zero, List.cons_append, List.nil_append]; exact rfl) ?_
  refine ARun.seq (ARun.region ?_); refine zza ?_; refine AOps.nil (ARun.seq (ARun.region ?_)); refine zzm ?_
  refine y_op rfl (q_nil rfl rfl) ?_
  refine y_op rfl (q_fldP rfl rfl rfl (by decide)) ?_
  refine y_op rfl (q_fldP rfl rfl rfl (by decide)) ?_
  refine y_op rfl (Zaa rfl rfl rfl hk rfl) ?_
  refine zza ?_; refine AOps.nil (ARun.seq (ARun.block ?_))
  refine ARun.loopI (S := Nat) (fun j : Nat => [(11, .any), (12, .any), (13, .any), (14, .any), (15, .any), (16, .any), (17, .any), (18, .any), (19, .any), (20, .any), (21, .any), (22, .any), (23, .any), (24, .any), (25, .any), (26, .any), (27, .any), (28, .any), (29, .any), (30, .any), (31, .any), (32, .any), (33, .any), (34, .any), (35, .any), (36, .any), (37, .any), (38, .any), (39, .any), (40, .any), (41, .any), (42, .any), (43, .any), (44, .any), (45, .any), (46, .any)]) (fun j : Nat => H.set k (rdS s j n w pl)) (fun j : Nat => i ≤ j ∧ j ≤ s.size ∧ (runL fn ((sby s).drop i)).2 = (runL fn ((sby s).drop j)).2) (fun j : Nat => s.size - j) (i) ?_ ?_ ?_ ?_
  · exact ⟨Nat.le_refl _, hi, rfl⟩
  · (repeat' first | exact envLe_nil | apply envLe_any | apply envLe_same)
  · exact (heap_set_self hk).symm
  rintro j hinv ih
  obtain ⟨j1, j2, j3⟩ := hinv
  have hk1 : (H.set k (rdS s j n w pl))[k]? = some (rdS s j n w pl) := heap_set_get hk
  refine ARun.seq (ARun.seq ?_)
  refine ARun.joinH (S := Bool) (fun b : Bool => [(11, .any), (12, .any), (13, .any), (14, .any), (15, .any), (16, .any), (17, .any), (18, .any), (19, .any), (20, .any), (21, .any), (22, .any), (23, .any), (24, .any), (25, .any), (26, .any), (27, .any), (28, .any), (29, .any), (30, .any), (31, .any), (32, .any), (33, .any), (34, .any), (35, .any), (36, .any), (37, .bool b)]) (fun b : Bool => H.set k (rdS s j n w pl)) (fun b : Bool => b = (decide (j < s.size) && fn ((sby s).getD j 0))) (fun run => ?_) ?_
  · skip
    by_cases g : j < s.size
    · rw [decide_eq_true g, Bool.true_and] at run
      refine ARun.drawnP 27 (fun _ => False) mixC rfl rfl (by kernel_rfl) (fun _ _ h => h.elim) ?_
      refine .op rfl (q_move rfl) ?_
      refine .op rfl (q_nil rfl rfl) ?_
      refine .op rfl (q_fldP rfl rfl rfl (by decide)) ?_
      refine .op rfl (q_fldP rfl rfl rfl (by decide)) ?_
      refine .op rfl (Zaa rfl rfl rfl hk1 rfl) ?_
      refine .op rfl (q_move rfl) ?_
      refine .op rfl (q_nil rfl rfl) ?_
      refine .op rfl (q_fldP rfl rfl rfl (by decide)) ?_
      refine .op rfl (q_fldP rfl rfl rfl (by decide)) ?_
      refine .op rfl (Zaa rfl rfl rfl hk1 rfl) ?_
      refine .op rfl (Zag rfl rfl) ?_
      refine .op rfl (OpQ.cast (d' := .bool true) (q_int rfl rfl rfl) (congrArg D.bool (decide_eq_true (by omega)))) ?_
      refine .op rfl (q_move rfl) ?_
      refine .op rfl (q_move rfl) ?_
      refine .op rfl (q_move rfl) ?_
      refine .op rfl (q_nil rfl rfl) ?_
      refine .op rfl (q_fldP rfl rfl rfl (by decide)) ?_
      refine .op rfl (q_fldP rfl rfl rfl (by decide)) ?_
      refine .op rfl (Zaa rfl rfl rfl hk1 rfl) ?_
      refine .op rfl (q_move rfl) ?_
      refine .op rfl (q_nil rfl rfl) ?_
      refine .op rfl (q_fldP rfl rfl rfl (by decide)) ?_
      refine .op rfl (q_fldP rfl rfl rfl (by decide)) ?_
      refine .op rfl (Zaa rfl rfl rfl hk1 rfl) ?_
      refine .op rfl (Zai rfl rfl rfl (by omega) (by omega) (sby_get _)) ?_
      refine .op rfl (q_call rfl rfl (hf ((sby s).getD j 0))) ?_
      refine .op rfl (q_pick rfl rfl rfl rfl) ?_
      refine .nil (fun hG => ?_)
      refine AOps.nil ?_
      exact ARun.ag (run (fn ((sby s).getD j 0)) (rfl))
    rw [decide_eq_false g, Bool.false_and] at run
    refine ARun.drawnP 27 (fun _ => False) mixC rfl rfl (by kernel_rfl) (fun _ _ h => h.elim) ?_
    refine .op rfl (q_move rfl) ?_
    refine .op rfl (q_nil rfl rfl) ?_
    refine .op rfl (q_fldP rfl rfl rfl (by decide)) ?_
    refine .op rfl (q_fldP rfl rfl rfl (by decide)) ?_
    refine .op rfl (Zaa rfl rfl rfl hk1 rfl) ?_
    refine .op rfl (q_move rfl) ?_
    refine .op rfl (q_nil rfl rfl) ?_
    refine .op rfl (q_fldP rfl rfl rfl (by decide)) ?_
    refine .op rfl (q_fldP rfl rfl rfl (by decide)) ?_
    refine .op rfl (Zaa rfl rfl rfl hk1 rfl) ?_
    refine .op rfl (Zag rfl rfl) ?_
    refine .op rfl (OpQ.cast (d' := .bool false) (q_int rfl rfl rfl) (congrArg D.bool (decide_eq_false (by omega)))) ?_
    refine .op rfl (q_move rfl) ?_
    refine .skip rfl ?_
    refine .skip rfl ?_
    refine .skip rfl ?_
    refine .skip rfl ?_
    refine .skip rfl ?_
    refine .skip rfl ?_
    refine .skip rfl ?_
    refine .skip rfl ?_
    refine .skip rfl ?_
    refine .skip rfl ?_
    refine .skip rfl ?_
    refine .skip rfl ?_
    refine .skip rfl ?_
    refine .op rfl (q_pick rfl rfl rfl rfl) ?_
    refine .nil (fun hG => ?_)
    refine AOps.nil ?_
    exact ARun.ag (run (false) (rfl))
  rintro b hj
  try dsimp only at hj ⊢
  subst hj
  refine ARun.cond rfl (fun y => ?_) (fun y => ?_)
  · skip
    have y2 := y
    rw [Bool.and_eq_true, decide_eq_true_eq] at y2
    rw [runL_at y2.1, y2.2, cond_true] at j3
    have g := y2.1
    refine ARun.skip (ARun.block (ARun.region ?_)); refine zzm ?_
    refine y_op rfl (q_nil rfl rfl) ?_
    refine y_op rfl (q_fldP rfl rfl rfl (by decide)) ?_
    refine y_op rfl (q_fldP rfl rfl rfl (by decide)) ?_
    refine y_op rfl (Zaa rfl rfl rfl hk1 rfl) ?_
    refine y_op rfl (OpQ.cast (d' := .int .i64 ((j + 1 : Nat) : Int)) (q_int rfl rfl rfl) (congrArg (D.int .i64) (by show IntKind.i64.wrap _ = _; rw [IntWalk.i64_in _ (by omega)]; omega))) ?_
    refine y_op rfl (q_nil rfl rfl) ?_
    refine y_op rfl (q_fldP rfl rfl rfl (by decide)) ?_
    refine y_op rfl (q_fldP rfl rfl rfl (by decide)) ?_
    refine y_new rfl (Zad rfl rfl rfl rfl hk1 rfl (Nat.le_of_ble_eq_true rfl) rfl) ?_
    refine AOps.nil (ARun.inBlock ?_)
    refine ARun.again (ih (j + 1) ?_ ?_) ?_ ?_
    · exact ⟨by omega, g, j3⟩
    · omega
    · (repeat' first | exact envLe_nil | apply envLe_any | apply envLe_same)
    (rw [List.set_set]; rfl)
  have j4 : (runL fn ((sby s).drop i)).2 = (sby s).drop j := by
    rw [j3]
    rcases Nat.lt_or_ge j s.size with g | g
    · rw [decide_eq_true g, Bool.true_and] at y
      rw [runL_at g, y]; rfl
    rw [List.drop_eq_nil_of_le (by omega)]; rfl
  have he := runL_ext j1 j2 j4
  refine ARun.exit rfl ?_
  refine ARun.seq ?_
  refine ARun.drawnP 12 (fun _ => False) mixC rfl rfl (by kernel_rfl) (fun _ _ h => h.elim) ?_
  refine .op rfl (q_move rfl) ?_
  refine .op rfl (q_nil rfl rfl) ?_
  refine .op rfl (q_fldP rfl rfl rfl (by decide)) ?_
  refine .op rfl (q_fldP rfl rfl rfl (by decide)) ?_
  refine .op rfl (Zaa rfl rfl rfl hk1 rfl) ?_
  refine .op rfl (q_move rfl) ?_
  refine .op rfl (q_move rfl) ?_
  refine .op rfl (q_nil rfl rfl) ?_
  refine .op rfl (q_fldP rfl rfl rfl (by decide)) ?_
  refine .op rfl (q_fldP rfl rfl rfl (by decide)) ?_
  refine .op rfl (Zaa rfl rfl rfl hk1 rfl) ?_
  refine .op rfl (Zbj (lo := i) (hi := j) rfl rfl (bnd_nat (n := i) rfl rfl) (bnd_nat (n := j) rfl rfl) j1 j2) ?_
  refine .nil (fun hG => ?_)
  refine zza ?_; refine AOps.nil ?_
  refine ARun.ret ?_
  exact ⟨_, _, _, .tmp rfl .nil, .cons (.same _) .nil, congrArg (fun z => Out.ret (D.str z)) he, by rw [j4]; show H.set k (rdS _ _ _ _ _) = H.set k (rdS _ _ _ _ _); rw [← hl, drop_back (by omega)]⟩
theorem ixB_fx : ∀ (u : List UInt8), Lib.indexByte u 93 = (match fx (u.map (·.toNat)) with | none => -1 | some n => ((n : Nat) : Int))
  | [] => rfl
  | c :: u => by
    have ih := ixB_fx u
    unfold Lib.indexByte
    rw [List.map_cons, fx]
    by_cases h : c = 93
    · subst h; rfl
    have h1 : (c == 93) = false := beq_eq_false_iff_ne.2 h
    have h2 : ¬ c.toNat = 93 := fun e => h (UInt8.toNat_inj.1 e)
    rw [h1, if_neg h2]
    simp only [Bool.false_eq_true, if_false]
    rw [ih]
    cases fx (u.map (·.toNat)) with
    | none => rfl
    | some n =>
      have hne : ((((n : Nat) : Int)) == -1) = false := beq_eq_false_iff_ne.2 (by omega)
      show (if ((((n : Nat) : Int)) == -1) = true then (-1 : Int) else ((n : Nat) : Int) + 1) = ((n + 1 : Nat) : Int)
      rw [hne]; rfl
theorem ix_fx (s : ByteArray) : Lib.indexByte s.data.toList (93 : Nat).toUInt8 = (match fx (sby s) with | none => -1 | some n => ((n : Nat) : Int)) := ixB_fx _
end Go.V
set_option maxHeartbeats 8000000
set_option maxRecDepth 100000
set_option synthInstance.maxSize 100000
set_option synthInstance.maxHeartbeats 2000000
namespace Go.V
open Go.RowKit Go.Proofs
theorem sby_ext_to (s : ByteArray) (i : Nat) (hi : i ≤ s.size) : sby (s.extract i s.size) = (sby s).drop i := by
  have h := sby_ext2 s i (s.size - i)
  rw [show i + (s.size - i) = s.size by omega] at h
  rw [h, List.take_of_length_le (by rw [List.length_drop, sby_len]; exact Nat.le_refl _)]
theorem dropIf_drop {l : List Nat} {i c : Nat} : dropIf c (l.drop i) = l.drop (if hdIs (l.drop i) c = true then i + 1 else i) := by
  unfold dropIf
  cases hdIs (l.drop i) c
  · rfl
  show (l.drop i).drop 1 = _
  rw [List.drop_drop]; rfl
abbrev setZ : Option AObj := some ⟨[.int .u64 0, .int .u64 0, .int .u64 0, .int .u64 0], Zac, 1, true, none⟩
theorem hc_set (H : Heap) (k : Nat) (s : ByteArray) (i n fr : Nat) (w pl : Bool) (hk : H[k]? = some (rdS s i n w pl)) (hi : i ≤ s.size) (hmax : s.size ≤ 2000) :
    HC C ZcT H [.ptr k 0, .int .i64 (fr : Int)] (fun x H' => Kp H H' k ∧ match stL ((sby s).drop i) with
      | none => x = .pan (wrongP 6 fr)
      | some (S, q) => x = .ret (setD S) ∧ H'[k]? = some (rdS s (s.size - q.length) n w pl)) := by
  have hl := sby_len s
  have hklt := (List.getElem?_eq_some_iff.1 hk).1
  obtain ⟨R, hR⟩ : ∃ R, R = stL ((sby s).drop i) := ⟨_, rfl⟩
  rw [← hR]
  unfold stL at hR
  refine HC.run Zbi ZcI rfl ZcJ (rs := [.cell 4 28]) (by rw [ZcK]) (by simp only [List.length_cons, List.length_nil, Nat.reduceAdd, Nat.reduceSub, List.replicate_succ, List.replicate_zero, List.cons_append, List.nil_append]; exact rfl) ?_
  refine ARun.seq (ARun.region ?_)
  refine y_new rfl (ZaN rfl rfl rfl rfl) ?_
  have hk0 : (H ++ [setZ])[k]? = some (rdS s i n w pl) := get_app hk
  have hc0 : (H ++ [setZ])[H.length]? = some setZ := get_last rfl
  have hkp0 : Kp H (H ++ [setZ]) k := Kp.app
  generalize H ++ [setZ] = G at *
  refine AOps.nil (ARun.seq (ARun.region ?_)); refine zzm ?_
  refine y_op rfl (q_nil rfl rfl) ?_
  refine y_op rfl (q_fldP rfl rfl rfl (by decide)) ?_
  refine y_op rfl (q_fldP rfl rfl rfl (by decide)) ?_
  refine y_op rfl (Zaa rfl rfl rfl hk0 rfl) ?_
  refine zza ?_; refine AOps.nil (ARun.seq (ARun.seq (ARun.region ?_))); refine zzm ?_
  refine y_op rfl (q_nil rfl rfl) ?_
  refine y_op rfl (q_fldP rfl rfl rfl (by decide)) ?_
  refine y_op rfl (Zdu rfl rfl rfl (hc_is G k s i n 94 w pl hk0 (by omega))) ?_
  refine AOps.nil ?_
  refine ARun.joinH (S := Nat × Heap) (fun σ : Nat × Heap => [(18, .any), (19, .any), (20, .any), (21, .any), (22, .any), (23, .any), (24, .any), (25, .any), (26, .any)]) (fun σ : Nat × Heap => σ.2) (fun σ : Nat × Heap => Kp H σ.2 k ∧ σ.2[k]? = some (rdS s σ.1 n w pl) ∧ σ.2[H.length]? = some setZ ∧ i ≤ σ.1 ∧ σ.1 ≤ s.size ∧ dropIf 94 ((sby s).drop i) = (sby s).drop σ.1) (fun run => ?_) ?_
  · skip
    have hd := dropIf_drop (l := sby s) (i := i) (c := 94)
    refine ARun.cond rfl (fun y => ?_) (fun y => ?_)
    · skip
      rw [if_pos y] at hd
      have hp := hdIs_len y
      rw [List.length_drop, hl] at hp
      refine ARun.region ?_; refine zzm ?_
      refine y_op rfl (q_nil rfl rfl) ?_
      refine y_op rfl (q_fldP rfl rfl rfl (by decide)) ?_
      refine y_op rfl (q_fldP rfl rfl rfl (by decide)) ?_
      refine y_op rfl (Zaa rfl rfl rfl hk0 rfl) ?_
      refine y_op rfl (OpQ.cast (d' := .int .i64 ((i + 1 : Nat) : Int)) (q_int rfl rfl rfl) (congrArg (D.int .i64) (by show IntKind.i64.wrap _ = _; rw [IntWalk.i64_in _ (by omega)]; omega))) ?_
      refine y_op rfl (q_nil rfl rfl) ?_
      refine y_op rfl (q_fldP rfl rfl rfl (by decide)) ?_
      refine y_op rfl (q_fldP rfl rfl rfl (by decide)) ?_
      refine y_new rfl (Zad rfl rfl rfl rfl hk0 rfl (Nat.le_of_ble_eq_true rfl) rfl) ?_
      refine AOps.nil ?_
      exact ARun.ag (run ((i + 1, G.set k (rdS s (i + 1) n w pl))) (⟨hkp0.trans Kp.set, heap_set_get hk0, (by rw [List.getElem?_set_ne (by omega)]; exact hc0), Nat.le_succ i, (by omega), hd⟩))
    rw [if_neg (by rw [y]; decide)] at hd
    refine ARun.skip ?_
    exact ARun.ag (run ((i, G)) (⟨hkp0, hk0, hc0, Nat.le_refl i, hi, hd⟩))
  rintro ⟨j, G1⟩ hj
  try dsimp only at hj ⊢
  clear hk0 hc0 hkp0
  obtain ⟨a1, a2, a3, a4, a5, a6⟩ := hj
  rw [a6] at hR
  clear a6
  refine ARun.seq (ARun.seq (ARun.region ?_)); refine zzm ?_
  refine y_op rfl (q_nil rfl rfl) ?_
  refine y_op rfl (q_fldP rfl rfl rfl (by decide)) ?_
  refine y_op rfl (Zdu rfl rfl rfl (hc_is G1 k s j n 93 w pl a2 (by omega))) ?_
  refine AOps.nil ?_
  refine ARun.joinH (S := Nat × Heap) (fun σ : Nat × Heap => [(31, .any), (32, .any), (33, .any), (34, .any), (35, .any), (36, .any), (37, .any), (38, .any), (39, .any)]) (fun σ : Nat × Heap => σ.2) (fun σ : Nat × Heap => Kp H σ.2 k ∧ σ.2[k]? = some (rdS s σ.1 n w pl) ∧ σ.2[H.length]? = some setZ ∧ i ≤ σ.1 ∧ σ.1 ≤ s.size ∧ dropIf 93 ((sby s).drop j) = (sby s).drop σ.1) (fun run => ?_) ?_
  · skip
    have hd := dropIf_drop (l := sby s) (i := j) (c := 93)
    refine ARun.cond rfl (fun y => ?_) (fun y => ?_)
    · skip
      rw [if_pos y] at hd
      have hp := hdIs_len y
      rw [List.length_drop, hl] at hp
      refine ARun.region ?_; refine zzm ?_
      refine y_op rfl (q_nil rfl rfl) ?_
      refine y_op rfl (q_fldP rfl rfl rfl (by decide)) ?_
      refine y_op rfl (q_fldP rfl rfl rfl (by decide)) ?_
      refine y_op rfl (Zaa rfl rfl rfl a2 rfl) ?_
      refine y_op rfl (OpQ.cast (d' := .int .i64 ((j + 1 : Nat) : Int)) (q_int rfl rfl rfl) (congrArg (D.int .i64) (by show IntKind.i64.wrap _ = _; rw [IntWalk.i64_in _ (by omega)]; omega))) ?_
      refine y_op rfl (q_nil rfl rfl) ?_
      refine y_op rfl (q_fldP rfl rfl rfl (by decide)) ?_
      refine y_op rfl (q_fldP rfl rfl rfl (by decide)) ?_
      refine y_new rfl (Zad rfl rfl rfl rfl a2 rfl (Nat.le_of_ble_eq_true rfl) rfl) ?_
      refine AOps.nil ?_
      exact ARun.ag (run ((j + 1, G1.set k (rdS s (j + 1) n w pl))) (⟨a1.trans Kp.set, heap_set_get a2, (by rw [List.getElem?_set_ne (by omega)]; exact a3), Nat.le_succ_of_le a4, (by omega), hd⟩))
    rw [if_neg (by rw [y]; decide)] at hd
    refine ARun.skip ?_
    exact ARun.ag (run ((j, G1)) (⟨a1, a2, a3, a4, a5, hd⟩))
  rintro ⟨m, G2⟩ hj
  try dsimp only at hj ⊢
  clear a1 a2 a3 a4 a5
  obtain ⟨a1, a2, a3, a4, a5, a6⟩ := hj
  rw [a6] at hR
  clear a6
  have hix := ix_fx (s.extract m s.size)
  rw [sby_ext_to s m a5] at hix
  obtain ⟨F, hF⟩ : ∃ F, F = fx ((sby s).drop m) := ⟨_, rfl⟩
  rw [← hF] at hR hix
  refine ARun.seq ?_
  refine ARun.drawnP 12 (fun _ => False) mixC rfl rfl (by kernel_rfl) (fun _ _ h => h.elim) ?_
  refine .op rfl (q_move rfl) ?_
  refine .op rfl (q_nil rfl rfl) ?_
  refine .op rfl (q_fldP rfl rfl rfl (by decide)) ?_
  refine .op rfl (q_fldP rfl rfl rfl (by decide)) ?_
  refine .op rfl (Zaa rfl rfl rfl a2 rfl) ?_
  refine .op rfl (q_move rfl) ?_
  refine .op rfl (q_nil rfl rfl) ?_
  refine .op rfl (q_fldP rfl rfl rfl (by decide)) ?_
  refine .op rfl (q_fldP rfl rfl rfl (by decide)) ?_
  refine .op rfl (Zaa rfl rfl rfl a2 rfl) ?_
  refine .op rfl (Zbj (lo := m) (hi := s.size) rfl rfl (bnd_nat (n := m) rfl rfl) rfl a5 (Nat.le_refl _)) ?_
  refine .op rfl (q_call rfl rfl (Zct (s.extract m s.size) 93)) ?_
  refine .nil (fun hG => ?_)
  refine zza ?_
  rw [hix]
  cases F with
  | none =>
    replace hR : R = none := hR
    subst hR
    refine AOps.nil (ARun.seq (ARun.seq (ARun.region ?_))); refine zzm ?_; refine zzi ?_; refine AOps.nil ?_
    refine ARun.condT rfl ?_
    refine ARun.region ?_; refine zzm ?_
    refine Zah rfl rfl rfl rfl (hc_bad G2 fr) (by rintro _ _ ⟨h, _⟩; cases h) (fun q H' hq => by obtain ⟨hq, rfl⟩ := hq; injection hq with hq; subst hq; exact ⟨_, _, .same _, a1, rfl⟩)
  | some p =>
    have hp := fx_lt hF.symm
    rw [List.length_drop, hl] at hp
    replace hR : R = if (readS (bytesOf (((sby s).drop i).take (((sby s).drop i).length - (((sby s).drop m).drop (p + 1)).length - 1)))).2 = 0 then some ((readS (bytesOf (((sby s).drop i).take (((sby s).drop i).length - (((sby s).drop m).drop (p + 1)).length - 1)))).1, ((sby s).drop m).drop (p + 1)) else none := hR
    have hext : bytesOf (((sby s).drop i).take (((sby s).drop i).length - (((sby s).drop m).drop (p + 1)).length - 1)) = s.extract i (m + p) := by
      rw [show ((sby s).drop i).length - (((sby s).drop m).drop (p + 1)).length - 1 = (m + p) - i by rw [List.length_drop, List.length_drop, List.length_drop, hl]; omega, ← sby_ext2 s i (m + p - i), show i + (m + p - i) = m + p by omega, bytesOf_sby]
    rw [hext, List.drop_drop] at hR
    have hlq : ((sby s).drop (m + (p + 1))).length = s.size - (m + p + 1) := by rw [List.length_drop, hl]; omega
    have hRS := Zbm (s.extract i (m + p))
    generalize readS (s.extract i (m + p)) = V at *
    refine AOps.nil (ARun.seq (ARun.seq (ARun.region ?_))); refine zzm ?_
    refine y_op rfl (OpQ.cast (d' := .bool false) (q_int rfl rfl rfl) (congrArg D.bool (decide_eq_false (by show ¬ ((p : Nat) : Int) < 0; omega)))) ?_
    refine AOps.nil ?_
    refine ARun.condF rfl ?_
    refine ARun.skip (ARun.seq (ARun.region ?_)); refine zzm ?_
    refine y_op rfl (q_nil rfl rfl) ?_
    refine y_op rfl (q_fldP rfl rfl rfl (by decide)) ?_
    refine y_op rfl (q_fldP rfl rfl rfl (by decide)) ?_
    refine y_op rfl (Zaa rfl rfl rfl a2 rfl) ?_
    refine zzm ?_
    refine y_op rfl (OpQ.cast (d' := .int .i64 ((p + 1 : Nat) : Int)) (q_int rfl rfl rfl) (congrArg (D.int .i64) (by show IntKind.i64.wrap (((p : Nat) : Int) + 1) = _; rw [IntWalk.i64_in _ (by omega)]; omega))) ?_
    refine y_op rfl (OpQ.cast (d' := .int .i64 ((m + p + 1 : Nat) : Int)) (q_int rfl rfl rfl) (congrArg (D.int .i64) (by show IntKind.i64.wrap _ = _; rw [IntWalk.i64_in _ (by omega)]; omega))) ?_
    refine y_op rfl (q_nil rfl rfl) ?_
    refine y_op rfl (q_fldP rfl rfl rfl (by decide)) ?_
    refine y_op rfl (q_fldP rfl rfl rfl (by decide)) ?_
    refine y_new rfl (Zad rfl rfl rfl rfl a2 rfl (Nat.le_of_ble_eq_true rfl) rfl) ?_
    have b1 : Kp H (G2.set k (rdS s (m + p + 1) n w pl)) k := a1.trans Kp.set
    have b2 : (G2.set k (rdS s (m + p + 1) n w pl))[k]? = some (rdS s (m + p + 1) n w pl) := heap_set_get a2
    have b3 : (G2.set k (rdS s (m + p + 1) n w pl))[H.length]? = some setZ := by rw [List.getElem?_set_ne (by omega)]; exact a3
    refine AOps.hp (H' := G2.set k (rdS s (m + p + 1) n w pl)) rfl ?_
    generalize G2.set k (rdS s (m + p + 1) n w pl) = G3 at *
    clear a1 a2 a3
    refine AOps.nil (ARun.seq ?_)
    refine ARun.drawnF (n := 19) (fun S : Nat → Bool => _) [(17, 7, 28, [.int .u64 0, .int .u64 0, .int .u64 0, .int .u64 0], some (18, swL V.1))] (fun _ => False) (sk := [(17, some 18)]) mixC rfl rfl (by kernel_rfl) rfl (by kernel_rfl) rfl rfl (fun _ _ _ h => h.elim) ?_
    refine DChG.op rfl (fun _ => q_move rfl) (fun _ => rfl) rfl rfl ?_
    refine DChG.op rfl (fun _ => q_nil rfl rfl) (fun _ => rfl) rfl rfl ?_
    refine DChG.op rfl (fun _ => q_fldP rfl rfl rfl (by decide)) (fun _ => rfl) rfl rfl ?_
    refine DChG.op rfl (fun _ => q_fldP rfl rfl rfl (by decide)) (fun _ => rfl) rfl rfl ?_
    refine DChG.op rfl (fun _ => Zaa rfl rfl rfl b2 rfl) (fun _ => rfl) rfl rfl ?_
    refine DChG.op rfl (fun _ => q_move rfl) (fun _ => rfl) rfl rfl ?_
    refine DChG.op rfl (fun _ => q_move rfl) (fun _ => rfl) rfl rfl ?_
    refine DChG.op rfl (fun _ => q_nil rfl rfl) (fun _ => rfl) rfl rfl ?_
    refine DChG.op rfl (fun _ => q_fldP rfl rfl rfl (by decide)) (fun _ => rfl) rfl rfl ?_
    refine DChG.op rfl (fun _ => q_fldP rfl rfl rfl (by decide)) (fun _ => rfl) rfl rfl ?_
    refine DChG.op rfl (fun _ => Zaa rfl rfl rfl b2 rfl) (fun _ => rfl) rfl rfl ?_
    refine DChG.op rfl (fun _ => OpQ.cast (d' := .int .i64 ((m + p : Nat) : Int)) (q_int rfl rfl rfl) (congrArg (D.int .i64) (by show IntKind.i64.wrap _ = _; rw [IntWalk.i64_in _ (by omega)]; omega))) (fun _ => rfl) rfl rfl ?_
    refine DChG.op rfl (fun _ => Zbj (lo := i) (hi := m + p) rfl rfl (bnd_nat (n := i) rfl rfl) (bnd_nat (n := m + p) rfl rfl) (by omega) (by omega)) (fun _ => rfl) rfl rfl ?_
    refine DChG.op rfl (fun _ => q_call rfl rfl (hRS)) (fun _ => rfl) rfl rfl ?_
    refine DChG.op rfl (fun _ => q_move rfl) (fun _ => rfl) rfl rfl ?_
    refine DChG.op rfl (fun _ => ZeN rfl rfl) (fun _ => rfl) rfl rfl ?_
    refine DChG.op rfl (fun _ => ZeN rfl rfl) (fun _ => rfl) rfl rfl ?_
    refine .al rfl rfl rfl rfl (fun _ => rfl) rfl rfl rfl ?_
    refine .sp (j := 17) rfl rfl rfl rfl rfl rfl rfl (fun _ => rfl) rfl rfl rfl (by kernel_rfl) ?_
    refine .nil (fun hG => AOps.fixed (as' := [(17, 7, 28, swL V.1)]) rfl ?_)
    refine zza ?_; refine AOps.nil (ARun.seq (ARun.seq (ARun.region ?_))); refine zzm ?_
    refine y_op rfl (OpQ.cast (d' := .bool (!decide (V.2 = 0))) (q_int rfl rfl rfl) (congrArg D.bool (by rw [Bool.eq_iff_iff]; simp))) ?_
    refine AOps.nil ?_
    refine ARun.cond rfl (fun z => ?_) (fun z => ?_)
    · skip
      have z : ¬ V.2 = 0 := by simpa using z
      rw [if_neg z] at hR
      subst hR
      refine ARun.region ?_; refine zzm ?_
      refine Zah rfl rfl rfl rfl (hc_bad G3 fr) (by rintro _ _ ⟨h, _⟩; cases h) (fun q H' hq => by obtain ⟨hq, rfl⟩ := hq; injection hq with hq; subst hq; exact ⟨_, _, .same _, b1, rfl⟩)
    have z : V.2 = 0 := by simpa using z
    rw [if_pos z] at hR
    subst hR
    refine ARun.skip (ARun.seq (ARun.region ?_)); refine zzL ?_
    refine y_new rfl (Zak rfl rfl rfl rfl rfl rfl b3 rfl (Nat.le_of_ble_eq_true rfl) rfl) ?_
    refine AOps.nil ?_
    refine ARun.ret ?_
    refine ⟨_, _, _, ResR.cellA rfl rfl rfl (heap_set_get b3) rfl rfl .nil, .cons (.same _) .nil, b1.put (Nat.le_refl _), rfl, ?_⟩
    show (G3.set H.length _)[k]? = _
    rw [List.getElem?_set_ne (by omega), b2, hlq, show s.size - (s.size - (m + p + 1)) = m + p + 1 by omega]
end Go.V
set_option maxHeartbeats 8000000
set_option maxRecDepth 100000
set_option synthInstance.maxSize 100000
set_option synthInstance.maxHeartbeats 2000000
namespace Go.V
open Go.RowKit Go.Proofs
theorem argL_suf (r : List Nat) : ∃ u, r = u ++ (argL r).2.2.2 := by
  unfold argL
  cases hdIs r 42
  · rw [cond_false]
    cases decide (0 < (dgL 0 r).1) && hdIs (dgL 0 r).2 36
    · exact ⟨[], rfl⟩
    obtain ⟨u, hu⟩ := dgL_suf 0 r
    refine ⟨u ++ (dgL 0 r).2.take 1, ?_⟩
    show r = _ ++ (dgL 0 r).2.drop 1
    rw [List.append_assoc, List.take_append_drop]; exact hu
  exact ⟨r.take 1, (List.take_append_drop 1 r).symm⟩
theorem argL_le (r : List Nat) : (argL r).1 ≤ 100000 := by
  unfold argL
  cases hdIs r 42
  · rw [cond_false]
    cases decide (0 < (dgL 0 r).1) && hdIs (dgL 0 r).2 36
    · exact Nat.zero_le _
    exact (dgL_le 0 r (by decide)).1
  exact Nat.zero_le _
abbrev pO (a wd ln c : Int) (S : Nat → Bool) : Option AObj := some ⟨[.str ByteArray.empty, .int .i64 a, .int .i64 wd, .int .i64 ln, .int .u8 c, .int .u64 ((sw S 0 : Nat) : Int), .int .u64 ((sw S 1 : Nat) : Int), .int .u64 ((sw S 2 : Nat) : Int), .int .u64 ((sw S 3 : Nat) : Int)], Zae, 1, true, none⟩
theorem pO_zero : pO 0 0 0 0 sempty = some ⟨[.str ByteArray.empty, .int .i64 0, .int .i64 0, .int .i64 0, .int .u8 0, .int .u64 0, .int .u64 0, .int .u64 0, .int .u64 0], Zae, 1, true, none⟩ := by
  have e : ∀ i, sw sempty i = 0 := fun i => (sw_ext (x := 0) (by decide) fun j _ => by rw [Nat.zero_testBit]; rfl).symm
  unfold pO
  simp only [e]; rfl
theorem apZ (H : Heap) {n : Nat} (hn : H.length = n) : AppL H (some ⟨[.str ⟨#[]⟩, .int .i64 0, .int .i64 0, .int .i64 0, .int .u8 0, .int .u64 0, .int .u64 0, .int .u64 0, .int .u64 0], Zae, 1, true, none⟩) n (H ++ [pO 0 0 0 0 sempty]) := ⟨hn, by rw [pO_zero]; rfl⟩
theorem stL_suf {r : List Nat} {S : Nat → Bool} {q : List Nat} (h : stL r = some (S, q)) : ∃ u, r = u ++ q := by
  unfold stL at h
  cases hf : fx (dropIf 93 (dropIf 94 r)) with
  | none => rw [hf] at h; cases h
  | some n =>
    rw [hf] at h
    simp only at h
    split at h
    · injection h with h
      injection h with _ h
      obtain ⟨u1, h1⟩ := dropIf_suf 94 r
      obtain ⟨u2, h2⟩ := dropIf_suf 93 (dropIf 94 r)
      refine ⟨u1 ++ (u2 ++ (dropIf 93 (dropIf 94 r)).take (n + 1)), ?_⟩
      rw [← h, List.append_assoc, List.append_assoc, List.take_append_drop, ← h2, ← h1]
    cases h
structure CvS (H G : Heap) (k x1 x2 : Nat) (rd p : Option AObj) : Prop where
  kp : Kp H G k
  rd : G[k]? = some rd
  res : G[x1]? = some (pO 0 0 0 0 sempty)
  pc : G[x2]? = some p
theorem CvS.setR {H G : Heap} {k x1 x2 : Nat} {rd p rd' : Option AObj} (h : CvS H G k x1 x2 rd p) (h1 : x1 ≠ k) (h2 : x2 ≠ k) : CvS H (G.set k rd') k x1 x2 rd' p :=
  ⟨h.kp.trans Kp.set, heap_set_get h.rd, by rw [List.getElem?_set_ne (fun e => h1 e.symm)]; exact h.res, by rw [List.getElem?_set_ne (fun e => h2 e.symm)]; exact h.pc⟩
theorem CvS.setP {H G : Heap} {k x1 x2 : Nat} {rd p p' : Option AObj} (h : CvS H G k x1 x2 rd p) (hx : H.length ≤ x2) (h1 : x2 ≠ x1) (h2 : x2 ≠ k) : CvS H (G.set x2 p') k x1 x2 rd p' :=
  ⟨h.kp.put hx, by rw [List.getElem?_set_ne h2]; exact h.rd, by rw [List.getElem?_set_ne h1]; exact h.res, heap_set_get h.pc⟩
theorem Zgg (H : Heap) (k : Nat) (s : ByteArray) (i n : Nat) (w pl : Bool) (hk : H[k]? = some (rdS s i n w pl)) (h1 : 1 ≤ i) (hi : i ≤ s.size) (hmax : s.size ≤ 2000) (hn : n ≤ 1000) :
    HC Cg Zbz H [.ptr k 0] (fun x H' => Kp H H' k ∧ match convL n w pl ((sby s).drop i) with
      | .bad => x = .pan (wrongP 6 (i - 1))
      | .lim => x = .pan (wrongP 2 (i - 1))
      | .ok p q c' w' pl' => x = .ret (pcA p) ∧ H'[k]? = some (rdS s (s.size - q.length) c' w' pl')) := by
  have hl := sby_len s
  have hklt := (List.getElem?_eq_some_iff.1 hk).1
  obtain ⟨R, hR⟩ : ∃ R, R = convL n w pl ((sby s).drop i) := ⟨_, rfl⟩
  rw [← hR]
  unfold convL at hR
  have hsa := argL_suf ((sby s).drop i)
  have hale := argL_le ((sby s).drop i)
  refine HC.run ZaA Zbn rfl Zbo (rs := [.cell 2 46]) (by rw [Zbp]) (by simp only [List.length_cons, List.length_nil, Nat.reduceAdd, Nat.reduceSub, List.replicate_succ, List.replicate_zero, List.cons_append, List.nil_append]; exact rfl) ?_
  refine ARun.seq (ARun.region ?_)
  refine y_new rfl (ZaN (ap := apZ H rfl) rfl rfl rfl rfl) ?_
  refine AOps.nil (ARun.seq (ARun.region ?_)); refine zzm ?_
  refine y_op rfl (q_nil rfl rfl) ?_
  refine y_op rfl (q_fldP rfl rfl rfl (by decide)) ?_
  refine y_op rfl (q_fldP rfl rfl rfl (by decide)) ?_
  refine y_op rfl (Zaa rfl rfl rfl (get_app hk) rfl) ?_
  refine y_op rfl (OpQ.cast (d' := .int .i64 ((i - 1 : Nat) : Int)) (q_int rfl rfl rfl) (congrArg (D.int .i64) (by show IntKind.i64.wrap _ = _; rw [IntWalk.i64_in _ (by omega)]; omega))) ?_
  refine zza ?_; refine AOps.nil (ARun.seq (ARun.region ?_))
  refine y_new rfl (ZaN (ap := apZ _ (n := H.length + 1) (by simp)) rfl rfl rfl rfl) ?_
  have hcv : CvS H ((H ++ [pO 0 0 0 0 sempty]) ++ [pO 0 0 0 0 sempty]) k H.length (H.length + 1) (rdS s i n w pl) (pO 0 0 0 0 sempty) := ⟨Kp.app.trans Kp.app, get_app (get_app hk), get_app (get_last rfl), get_last (by simp)⟩
  obtain ⟨x1, hx1⟩ : ∃ x1, x1 = H.length := ⟨_, rfl⟩
  obtain ⟨x2, hx2⟩ : ∃ x2, x2 = H.length + 1 := ⟨_, rfl⟩
  have hx12 : x2 = x1 + 1 := by rw [hx2, hx1]
  rw [← hx2, ← hx1] at hcv ⊢
  have n1 : x1 ≠ k := by omega
  have n2 : x2 ≠ k := by omega
  have n3 : x2 ≠ x1 := by omega
  have n4 : H.length ≤ x2 := by omega
  generalize (H ++ [pO 0 0 0 0 sempty]) ++ [pO 0 0 0 0 sempty] = G at *
  have hA := HC.g (Zhn G k s i n w pl hcv.rd hi (by omega))
  generalize argL ((sby s).drop i) = a at *
  obtain ⟨u1, hu1⟩ := hsa
  obtain ⟨e1, e2⟩ := suf_drop (by omega) hu1
  rw [hl] at e1 e2
  refine AOps.nil (ARun.seq (ARun.region ?_)); refine zzm ?_
  refine Zah rfl rfl rfl rfl hA ?_ (by rintro _ _ ⟨h, _⟩; cases h)
  rintro q1 H1 ⟨f1, rfl⟩
  injection f1 with f1
  subst f1
  have hcv := hcv.setR (rd' := rdS s (s.size - a.2.2.2.length) n (w || a.2.2.1) pl) n1 n2
  generalize G.set k (rdS s (s.size - a.2.2.2.length) n (w || a.2.2.1) pl) = G at *
  have hN := HC.g (ZgM G k s (s.size - a.2.2.2.length) n (w || a.2.2.1) pl hcv.rd (by omega) (by omega))
  obtain ⟨u2, hu2⟩ := dgL_suf 0 a.2.2.2
  have hd5 := (dgL_le 0 a.2.2.2 (by decide)).1
  rw [e1] at hN
  generalize dgL 0 a.2.2.2 = d at *
  obtain ⟨e3, e4⟩ := suf_drop (l := sby s) (i := s.size - a.2.2.2.length) (by omega) (e1.trans hu2)
  rw [hl] at e3 e4
  refine zzm ?_; refine zze ?_; refine zze ?_; refine zza ?_; refine zza ?_; refine AOps.nil (ARun.seq (ARun.region ?_)); refine zzm ?_
  refine y_op rfl (q_nil rfl rfl) ?_
  refine y_op rfl (q_fldP rfl rfl rfl (by decide)) ?_
  refine Zah rfl rfl rfl rfl hN ?_ (by rintro _ _ ⟨h, _⟩; cases h)
  rintro q1 H1 ⟨f1, rfl⟩
  injection f1 with f1
  subst f1
  have hcv := hcv.setR (rd' := rdS s (s.size - d.2.length) n (w || a.2.2.1) pl) n1 n2
  generalize G.set k (rdS s (s.size - d.2.length) n (w || a.2.2.1) pl) = G at *
  refine y_op rfl (q_fldP rfl rfl rfl (by decide)) ?_
  refine y_new rfl (Zad rfl rfl rfl rfl hcv.pc rfl (Nat.le_of_ble_eq_true rfl) rfl) ?_
  refine AOps.nil (ARun.seq (ARun.region ?_)); refine zzm ?_
  have hcv := hcv.setP (p' := pO 0 (d.1 : Int) 0 0 sempty) n4 n3 n2
  refine AOps.hp (H' := G.set x2 (pO 0 (d.1 : Int) 0 0 sempty)) rfl ?_
  generalize G.set x2 (pO 0 (d.1 : Int) 0 0 sempty) = G at *
  have hL := Zic G k s (s.size - d.2.length) n (w || a.2.2.1) pl hcv.rd (by omega) hmax
  rw [e3] at hL
  have hm12 := (modL_ok d.2).1
  have hml := modL_len d.2
  generalize modL d.2 = ln at *
  obtain ⟨j, hj⟩ : ∃ j, j = s.size - d.2.length + (lenAt ln).length := ⟨_, rfl⟩
  rw [← hj] at hL
  have hjs : j ≤ s.size := by omega
  have e5 : (sby s).drop j = d.2.drop (lenAt ln).length := by rw [hj, ← List.drop_drop, e3]
  rw [← e5] at hR
  refine Zah rfl rfl rfl rfl hL ?_ (by rintro _ _ ⟨h, _⟩; cases h)
  rintro q1 H1 ⟨f1, rfl⟩
  injection f1 with f1
  subst f1
  have hcv := hcv.setR (rd' := rdS s j n (w || a.2.2.1) pl) n1 n2
  generalize G.set k (rdS s j n (w || a.2.2.1) pl) = G at *
  refine y_op rfl (q_fldP rfl rfl rfl (by decide)) ?_
  refine y_new rfl (Zad rfl rfl rfl rfl hcv.pc rfl (Nat.le_of_ble_eq_true rfl) rfl) ?_
  have hcv := hcv.setP (p' := pO 0 (d.1 : Int) (ln : Int) 0 sempty) n4 n3 n2
  refine AOps.hp (H' := G.set x2 (pO 0 (d.1 : Int) (ln : Int) 0 sempty)) rfl ?_
  generalize G.set x2 (pO 0 (d.1 : Int) (ln : Int) 0 sempty) = G at *
  refine AOps.nil (ARun.seq (ARun.seq ?_))
  refine ARun.drawnP 12 (fun _ => False) mixC rfl rfl (by kernel_rfl) (fun _ _ h => h.elim) ?_
  refine .op rfl (q_move rfl) ?_
  refine .op rfl (q_nil rfl rfl) ?_
  first
    | refine .op rfl (q_fldP rfl rfl rfl (by decide)) ?_
    | refine .op rfl (q_fldS rfl rfl rfl (by decide)) ?_
  first
    | refine .op rfl (q_fldP rfl rfl rfl (by decide)) ?_
    | refine .op rfl (q_fldS rfl rfl rfl (by decide)) ?_
  refine .op rfl (Zaa rfl rfl rfl hcv.rd rfl) ?_
  refine .op rfl (q_move rfl) ?_
  refine .op rfl (q_nil rfl rfl) ?_
  first
    | refine .op rfl (q_fldP rfl rfl rfl (by decide)) ?_
    | refine .op rfl (q_fldS rfl rfl rfl (by decide)) ?_
  first
    | refine .op rfl (q_fldP rfl rfl rfl (by decide)) ?_
    | refine .op rfl (q_fldS rfl rfl rfl (by decide)) ?_
  refine .op rfl (Zaa rfl rfl rfl hcv.rd rfl) ?_
  refine .op rfl (Zag rfl rfl) ?_
  refine .op rfl (OpQ.cast (d' := .bool (decide (s.size ≤ j))) (q_int rfl rfl rfl) (congrArg D.bool (decide_eq_decide.2 (by omega)))) ?_
  refine .nil (fun hG => ?_)
  refine AOps.nil ?_
  refine ARun.ite rfl (fun z => ?_) (fun z => ?_)
  · skip
    rw [List.drop_eq_nil_of_le (by omega), convC] at hR
    subst hR
    refine ARun.region ?_; refine zzm ?_
    refine Zah rfl rfl rfl rfl (HC.g (hc_bad G (i - 1))) (by rintro _ _ ⟨h, _⟩; cases h) (fun q H' hq => by obtain ⟨hq, rfl⟩ := hq; injection hq with hq; subst hq; exact ⟨_, _, .same _, hcv.kp, rfl⟩)
  have hjlt : j < s.size := by omega
  rw [drop_getD (sby s) j 0 (by omega), convC] at hR
  have hc256 := sby_lt (s := s) j
  obtain ⟨c, hc⟩ : ∃ c, c = (sby s).getD j 0 := ⟨_, rfl⟩
  rw [← hc] at hR hc256
  refine ARun.skip (ARun.seq ?_)
  refine ARun.drawnP 11 (fun _ => False) mixC rfl rfl (by kernel_rfl) (fun _ _ h => h.elim) ?_
  refine .op rfl (q_move rfl) ?_
  refine .op rfl (q_nil rfl rfl) ?_
  first
    | refine .op rfl (q_fldP rfl rfl rfl (by decide)) ?_
    | refine .op rfl (q_fldS rfl rfl rfl (by decide)) ?_
  first
    | refine .op rfl (q_fldP rfl rfl rfl (by decide)) ?_
    | refine .op rfl (q_fldS rfl rfl rfl (by decide)) ?_
  refine .op rfl (Zaa rfl rfl rfl hcv.rd rfl) ?_
  refine .op rfl (q_move rfl) ?_
  refine .op rfl (q_nil rfl rfl) ?_
  first
    | refine .op rfl (q_fldP rfl rfl rfl (by decide)) ?_
    | refine .op rfl (q_fldS rfl rfl rfl (by decide)) ?_
  first
    | refine .op rfl (q_fldP rfl rfl rfl (by decide)) ?_
    | refine .op rfl (q_fldS rfl rfl rfl (by decide)) ?_
  refine .op rfl (Zaa rfl rfl rfl hcv.rd rfl) ?_
  refine .op rfl (Zai rfl rfl rfl (by omega) (by omega) (show _ = (c : Int) by rw [hc]; exact sby_get _)) ?_
  refine .nil (fun hG => ?_)
  first
    | refine y_op rfl (q_fldP rfl rfl rfl (by decide)) ?_
    | refine y_op rfl (q_fldS rfl rfl rfl (by decide)) ?_
  refine y_new rfl (Zad rfl rfl rfl rfl hcv.pc rfl (Nat.le_of_ble_eq_true rfl) rfl) ?_
  have hcv := hcv.setP (p' := pO 0 (d.1 : Int) (ln : Int) (c : Int) sempty) n4 n3 n2
  refine AOps.hp (H' := G.set x2 (pO 0 (d.1 : Int) (ln : Int) (c : Int) sempty)) rfl ?_
  generalize G.set x2 (pO 0 (d.1 : Int) (ln : Int) (c : Int) sempty) = G at *
  refine AOps.nil (ARun.seq (ARun.region ?_)); refine zzm ?_
  refine y_op rfl (q_nil rfl rfl) ?_
  first
    | refine y_op rfl (q_fldP rfl rfl rfl (by decide)) ?_
    | refine y_op rfl (q_fldS rfl rfl rfl (by decide)) ?_
  first
    | refine y_op rfl (q_fldP rfl rfl rfl (by decide)) ?_
    | refine y_op rfl (q_fldS rfl rfl rfl (by decide)) ?_
  refine y_op rfl (Zaa rfl rfl rfl hcv.rd rfl) ?_
  refine y_op rfl (OpQ.cast (d' := .int .i64 ((j + 1 : Nat) : Int)) (q_int rfl rfl rfl) (congrArg (D.int .i64) (by show IntKind.i64.wrap _ = _; rw [IntWalk.i64_in _ (by omega)]; omega))) ?_
  refine y_op rfl (q_nil rfl rfl) ?_
  first
    | refine y_op rfl (q_fldP rfl rfl rfl (by decide)) ?_
    | refine y_op rfl (q_fldS rfl rfl rfl (by decide)) ?_
  first
    | refine y_op rfl (q_fldP rfl rfl rfl (by decide)) ?_
    | refine y_op rfl (q_fldS rfl rfl rfl (by decide)) ?_
  refine y_new rfl (Zad rfl rfl rfl rfl hcv.rd rfl (Nat.le_of_ble_eq_true rfl) rfl) ?_
  have hcv := hcv.setR (rd' := rdS s (j + 1) n (w || a.2.2.1) pl) n1 n2
  refine AOps.hp (H' := G.set k (rdS s (j + 1) n (w || a.2.2.1) pl)) rfl ?_
  generalize G.set k (rdS s (j + 1) n (w || a.2.2.1) pl) = G at *
  refine AOps.nil (ARun.seq (ARun.seq (ARun.region ?_)))
  first
    | refine y_op rfl (Zaa rfl rfl rfl rfl rfl) ?_
    | refine y_op rfl (q_load rfl rfl rfl rfl) ?_
    | refine y_op rfl (q_load rfl rfl rfl (lim_load (by omega))) ?_
    | refine y_op rfl (q_load rfl rfl rfl (nts_load (by omega))) ?_
    | refine y_op rfl (Zaa rfl rfl rfl rfl (nts_get (by omega))) ?_
    | refine y_op rfl (Zaa rfl rfl rfl rfl (win_get (by assumption) (by omega))) ?_
  first
    | refine y_op rfl (q_fldP rfl rfl rfl (by decide)) ?_
    | refine y_op rfl (q_fldS rfl rfl rfl (by decide)) ?_
  refine y_op rfl (Zaa rfl rfl rfl hcv.pc rfl) ?_
  refine y_op rfl (OpQ.cast (d' := .int .i64 ((sclass c : Nat) : Int)) (Zgi (kt := ZaO) (et := t_int) (by kernel_rfl) (by kernel_rfl) rfl rfl rfl rfl rfl (row_of hc256)) (by split <;> (rename_i hz; simp [hz]))) ?_
  refine zza ?_; refine AOps.nil (ARun.seq (ARun.region ?_)); refine zzm ?_
  refine y_op rfl (OpQ.cast (d' := .bool (decide (sclass c = 0))) (q_int rfl rfl rfl) (congrArg D.bool (decide_eq_decide.2 (by omega)))) ?_
  refine zzm ?_
  apply AOps.orJ 68 (fun sj1 => [(68, .any), (69, .any), (70, .any), (71, .any), (72, .any), (73, .any), (74, .bool sj1)]) rfl
  · intro hj1 run1
    try replace hj1 := of_decide_eq_true hj1
    refine zzk ?_; refine zzk ?_; refine zzk ?_; refine zzk ?_; refine zzk ?_; refine zzp ?_
    exact AOps.ag run1
  · intro hj1 run1
    try replace hj1 := of_decide_eq_false hj1
    refine zzm ?_
    first
      | refine y_op rfl (q_fldP rfl rfl rfl (by decide)) ?_
      | refine y_op rfl (q_fldS rfl rfl rfl (by decide)) ?_
    refine y_op rfl (Zaa rfl rfl rfl hcv.pc rfl) ?_
    refine zzc rfl rfl (PC.g (Zhq ((sclass c : Nat) : Int) (ln : Int) ⟨by omega, by have := sclass_le c; omega⟩)) ?_
    refine zzn ?_; refine zzp ?_
    exact AOps.ag run1
  refine zzm ?_
  apply AOps.orJ 75 (fun sj2 => [(75, .any), (76, .any), (77, .any), (78, .any), (79, .any), (80, .any), (81, .any), (82, .any), (83, .any), (84, .any), (85, .any), (86, .bool sj2)]) rfl
  · intro hj2 run2
    try replace hj2 := of_decide_eq_true hj2
    refine zzk ?_; refine zzk ?_; refine zzk ?_; refine zzk ?_; refine zzk ?_; refine zzk ?_; refine zzk ?_; refine zzk ?_; refine zzk ?_; refine zzk ?_; refine zzp ?_
    exact AOps.ag run2
  · intro hj2 run2
    try replace hj2 := of_decide_eq_false hj2
    refine zzm ?_
    refine y_op rfl (OpQ.cast (d' := .bool (decide (sclass c = 5))) (q_int rfl rfl rfl) (congrArg D.bool (decide_eq_decide.2 (by omega)))) ?_
    refine zzm ?_
    apply AOps.andJ 78 (fun sj3 => [(78, .any), (79, .any), (80, .any), (81, .any), (82, .any), (83, .any), (84, .any), (85, .bool sj3)]) rfl
    · intro hj3 run3
      try replace hj3 := of_decide_eq_true hj3
      refine zzm ?_; refine zzm ?_
      apply AOps.orJ 80 (fun sj4 => [(80, .any), (81, .any), (82, .any), (83, .any), (84, .bool sj4)]) rfl
      · intro hj4 run4
        try replace hj4 := of_decide_eq_true hj4
        refine zzk ?_; refine zzk ?_; refine zzk ?_; refine zzp ?_
        exact AOps.ag run4
      · intro hj4 run4
        try replace hj4 := of_decide_eq_false hj4
        first
          | refine y_op rfl (q_fldP rfl rfl rfl (by decide)) ?_
          | refine y_op rfl (q_fldS rfl rfl rfl (by decide)) ?_
        refine y_op rfl (Zaa rfl rfl rfl hcv.pc rfl) ?_
        refine y_op rfl (OpQ.cast (d' := .bool (decide (0 < d.1))) (q_int rfl rfl rfl) (congrArg D.bool (decide_eq_decide.2 (by omega)))) ?_
        refine zzp ?_
        exact AOps.ag run4
      refine zzp ?_
      exact AOps.ag run3
    · intro hj3 run3
      try replace hj3 := of_decide_eq_false hj3
      refine zzk ?_; refine zzk ?_; refine zzk ?_; refine zzk ?_; refine zzk ?_; refine zzk ?_; refine zzp ?_
      exact AOps.ag run3
    refine zzp ?_
    exact AOps.ag run2
  refine AOps.nil ?_
  refine ARun.cond rfl (fun u => ?_) (fun u => ?_)
  · skip
    rw [u, cond_true] at hR
    subst hR
    refine ARun.region ?_; refine zzm ?_
    refine Zah rfl rfl rfl rfl (HC.g (hc_bad G (i - 1))) (by rintro _ _ ⟨h, _⟩; cases h) (fun q H' hq => by obtain ⟨hq, rfl⟩ := hq; injection hq with hq; subst hq; exact ⟨_, _, .same _, hcv.kp, rfl⟩)
  rw [u, cond_false] at hR
  clear u
  refine ARun.skip (ARun.seq (ARun.seq (ARun.region ?_)))
  first
    | refine y_op rfl (q_fldP rfl rfl rfl (by decide)) ?_
    | refine y_op rfl (q_fldS rfl rfl rfl (by decide)) ?_
  refine y_op rfl (Zaa rfl rfl rfl hcv.pc rfl) ?_
  refine y_op rfl (OpQ.cast (q_int rfl rfl rfl) (congrArg D.bool (int_dec (m := 91) rfl))) ?_
  refine AOps.nil ?_
  refine ARun.joinH (S := (Nat → Bool) × Nat × Heap) (fun σ : (Nat → Bool) × Nat × Heap => [(92, .any), (93, .any), (94, .any), (95, .any)]) (fun σ : (Nat → Bool) × Nat × Heap => σ.2.2) (fun σ : (Nat → Bool) × Nat × Heap => CvS H σ.2.2 k x1 x2 (rdS s σ.2.1 n (w || a.2.2.1) pl) (pO 0 (d.1 : Int) (ln : Int) (c : Int) σ.1) ∧ σ.2.1 ≤ s.size ∧ R = convE n w pl a.1 a.2.1 a.2.2.1 d.1 ln c σ.1 ((sby s).drop σ.2.1)) (fun run => ?_) ?_
  · skip
    refine ARun.ite rfl (fun y => ?_) (fun y => ?_)
    · skip
      rw [if_pos y] at hR
      have hst := hc_set G k s (j + 1) n (i - 1) (w || a.2.2.1) pl hcv.rd (by omega) hmax
      have hsf := fun S q => stL_suf (r := (sby s).drop (j + 1)) (S := S) (q := q)
      generalize stL ((sby s).drop (j + 1)) = X at *
      cases X with
      | none =>
        replace hR : R = .bad := hR
        subst hR
        refine ARun.region ?_; refine zzm ?_; refine zzm ?_
        refine Zah rfl rfl rfl rfl (HC.g hst) (by rintro _ _ ⟨_, h⟩; cases h) (fun q H' hq => by obtain ⟨hq1, hq⟩ := hq; injection hq with hq; subst hq; exact ⟨_, _, .same _, hcv.kp.trans hq1, rfl⟩)
      | some X =>
        obtain ⟨S, q⟩ := X
        replace hR : R = convE n w pl a.1 a.2.1 a.2.2.1 d.1 ln c S q := hR
        obtain ⟨u3, hu3⟩ := hsf S q rfl
        obtain ⟨e7, e8⟩ := suf_drop (l := sby s) (i := j + 1) (by omega) hu3
        rw [hl] at e7 e8
        refine ARun.region ?_; refine zzm ?_; refine zzm ?_
        refine Zah rfl rfl rfl rfl (HC.g hst) ?_ (by rintro _ _ ⟨_, h, _⟩; cases h)
        rintro q1 H1 ⟨f0, f1, f2⟩
        injection f1 with f1
        subst f1
        have hg1 := hcv.res
        have hg2 := hcv.pc
        have hcv : CvS H H1 k x1 x2 (rdS s (s.size - q.length) n (w || a.2.2.1) pl) (pO 0 (d.1 : Int) (ln : Int) (c : Int) sempty) := ⟨hcv.kp.trans f0, f2, (f0.2 x1 (List.getElem?_eq_some_iff.1 hg1).1 n1).trans hg1, (f0.2 x2 (List.getElem?_eq_some_iff.1 hg2).1 n2).trans hg2⟩
        first
          | refine y_op rfl (q_fldP rfl rfl rfl (by decide)) ?_
          | refine y_op rfl (q_fldS rfl rfl rfl (by decide)) ?_
        refine y_new rfl (Zak rfl rfl rfl rfl rfl rfl hcv.pc rfl (Nat.le_of_ble_eq_true rfl) rfl) ?_
        refine AOps.nil ?_
        exact ARun.ag (run ((S, s.size - q.length, H1.set x2 (pO 0 (d.1 : Int) (ln : Int) (c : Int) S))) (⟨hcv.setP n4 n3 n2, (by dsimp only; omega), (by dsimp only; rw [e7]; exact hR)⟩))
    rw [if_neg y] at hR
    refine ARun.skip ?_
    exact ARun.ag (run ((sempty, j + 1, G)) (⟨hcv, hjlt, hR⟩))
  rintro ⟨S, j2, G2⟩ hj
  try dsimp only at hj ⊢
  clear hcv hR
  obtain ⟨hcv, hj2, hR⟩ := hj
  unfold convE at hR
  refine ARun.seq (ARun.seq (ARun.region ?_)); refine zzm ?_; refine zzn ?_; refine zzm ?_
  apply AOps.andJ 98 (fun sj5 => [(98, .any), (99, .any), (100, .any), (101, .bool sj5)]) rfl
  · intro hj5 run5
    try replace hj5 := of_decide_eq_true hj5
    refine zzm ?_
    refine y_op rfl (OpQ.cast (d' := .bool (decide (a.1 = 0))) (q_int rfl rfl rfl) (congrArg D.bool (decide_eq_decide.2 (by omega)))) ?_
    refine zzp ?_
    exact AOps.ag run5
  · intro hj5 run5
    try replace hj5 := of_decide_eq_false hj5
    refine zzk ?_; refine zzk ?_; refine zzp ?_
    exact AOps.ag run5
  obtain ⟨fr, hfr⟩ : ∃ fr, fr = (!a.2.1 && decide (a.1 = 0)) := ⟨_, rfl⟩
  rw [← hfr] at hR
  rw [← hfr]
  refine AOps.nil ?_
  refine ARun.joinH (S := Nat × Nat × Bool × Heap) (fun σ : Nat × Nat × Bool × Heap => [(102, .any), (103, .any), (104, .any), (105, .any), (106, .any), (107, .any), (108, .any), (109, .any), (110, .any), (111, .any), (112, .any), (113, .any), (114, .any), (115, .any), (5, .int .i64 (σ.2.1 : Int))]) (fun σ : Nat × Nat × Bool × Heap => σ.2.2.2) (fun σ : Nat × Nat × Bool × Heap => CvS H σ.2.2.2 k x1 x2 (rdS s j2 σ.1 (w || a.2.2.1) σ.2.2.1) (pO 0 (d.1 : Int) (ln : Int) (c : Int) S) ∧ σ.1 = (if fr = true then n + 1 else n) ∧ σ.2.1 = (if fr = true then n + 1 else a.1) ∧ σ.2.2.1 = (pl || fr)) (fun run => ?_) ?_
  · skip
    refine ARun.cond rfl (fun y => ?_) (fun y => ?_)
    · skip
      subst y
      refine ARun.seq (ARun.region ?_); refine zzm ?_
      refine y_op rfl (q_nil rfl rfl) ?_
      first
        | refine y_op rfl (q_fldP rfl rfl rfl (by decide)) ?_
        | refine y_op rfl (q_fldS rfl rfl rfl (by decide)) ?_
      refine y_new rfl (Zad rfl rfl rfl rfl hcv.rd rfl (Nat.le_of_ble_eq_true rfl) rfl) ?_
      have hcv := hcv.setR (rd' := rdS s j2 n (w || a.2.2.1) true) n1 n2
      refine AOps.hp (H' := G2.set k (rdS s j2 n (w || a.2.2.1) true)) rfl ?_
      generalize G2.set k (rdS s j2 n (w || a.2.2.1) true) = G2 at *
      refine AOps.nil (ARun.seq (ARun.region ?_)); refine zzm ?_
      refine y_op rfl (q_nil rfl rfl) ?_
      first
        | refine y_op rfl (q_fldP rfl rfl rfl (by decide)) ?_
        | refine y_op rfl (q_fldS rfl rfl rfl (by decide)) ?_
      refine y_op rfl (Zaa rfl rfl rfl hcv.rd rfl) ?_
      refine y_op rfl (OpQ.cast (d' := .int .i64 ((n + 1 : Nat) : Int)) (q_int rfl rfl rfl) (congrArg (D.int .i64) (by show IntKind.i64.wrap _ = _; rw [IntWalk.i64_in _ (by omega)]; omega))) ?_
      refine y_op rfl (q_nil rfl rfl) ?_
      first
        | refine y_op rfl (q_fldP rfl rfl rfl (by decide)) ?_
        | refine y_op rfl (q_fldS rfl rfl rfl (by decide)) ?_
      refine y_new rfl (Zad rfl rfl rfl rfl hcv.rd rfl (Nat.le_of_ble_eq_true rfl) rfl) ?_
      have hcv := hcv.setR (rd' := rdS s j2 (n + 1) (w || a.2.2.1) true) n1 n2
      refine AOps.hp (H' := G2.set k (rdS s j2 (n + 1) (w || a.2.2.1) true)) rfl ?_
      generalize G2.set k (rdS s j2 (n + 1) (w || a.2.2.1) true) = G2 at *
      refine AOps.nil (ARun.region ?_); refine zzm ?_
      refine y_op rfl (q_nil rfl rfl) ?_
      first
        | refine y_op rfl (q_fldP rfl rfl rfl (by decide)) ?_
        | refine y_op rfl (q_fldS rfl rfl rfl (by decide)) ?_
      refine y_op rfl (Zaa rfl rfl rfl hcv.rd rfl) ?_
      refine zza ?_; refine AOps.nil ?_
      exact ARun.ag (run ((n + 1, n + 1, true, G2)) (⟨hcv, rfl, rfl, (by rw [Bool.or_true])⟩))
    subst y
    refine ARun.skip ?_
    exact ARun.ag (run ((n, a.1, pl, G2)) (⟨hcv, rfl, rfl, (by rw [Bool.or_false])⟩))
  rintro ⟨cn, ar, pq, G3⟩ hj
  try dsimp only at hj ⊢
  clear hcv
  obtain ⟨hcv, c1, c2, c3⟩ := hj
  rw [← c1, ← c2, ← c3] at hR
  have har : ar ≤ 100000 := by rw [c2]; split <;> omega
  refine ARun.seq (ARun.seq (ARun.region ?_)); refine zzm ?_
  refine y_op rfl (q_nil rfl rfl) ?_
  first
    | refine y_op rfl (q_fldP rfl rfl rfl (by decide)) ?_
    | refine y_op rfl (q_fldS rfl rfl rfl (by decide)) ?_
  refine y_op rfl (Zaa rfl rfl rfl hcv.rd rfl) ?_
  refine zzm ?_
  apply AOps.andJ 120 (fun sj6 => [(120, .any), (121, .any), (122, .any), (123, .any), (124, .any), (125, .bool sj6)]) rfl
  · intro hj6 run6
    try replace hj6 := of_decide_eq_true hj6
    refine zzm ?_
    refine y_op rfl (q_nil rfl rfl) ?_
    first
      | refine y_op rfl (q_fldP rfl rfl rfl (by decide)) ?_
      | refine y_op rfl (q_fldS rfl rfl rfl (by decide)) ?_
    refine y_op rfl (Zaa rfl rfl rfl hcv.rd rfl) ?_
    refine zzp ?_
    exact AOps.ag run6
  · intro hj6 run6
    try replace hj6 := of_decide_eq_false hj6
    refine zzk ?_; refine zzk ?_; refine zzk ?_; refine zzk ?_; refine zzp ?_
    exact AOps.ag run6
  refine AOps.nil ?_
  refine ARun.cond rfl (fun y => ?_) (fun y => ?_)
  · skip
    rw [y, cond_true] at hR
    subst hR
    refine ARun.region ?_; refine zzm ?_
    refine Zah rfl rfl rfl rfl (HC.g (hc_bad G3 (i - 1))) (by rintro _ _ ⟨h, _⟩; cases h) (fun q H' hq => by obtain ⟨hq, rfl⟩ := hq; injection hq with hq; subst hq; exact ⟨_, _, .same _, hcv.kp, rfl⟩)
  rw [y, cond_false] at hR
  refine ARun.skip (ARun.seq (ARun.seq (ARun.region ?_))); refine zzm ?_
  first
    | refine y_op rfl (q_fldP rfl rfl rfl (by decide)) ?_
    | refine y_op rfl (q_fldS rfl rfl rfl (by decide)) ?_
  refine y_new rfl (Zad rfl rfl rfl rfl hcv.pc rfl (Nat.le_of_ble_eq_true rfl) rfl) ?_
  have hcv := hcv.setP (p' := pO (ar : Int) (d.1 : Int) (ln : Int) (c : Int) S) n4 n3 n2
  refine AOps.hp (H' := G3.set x2 (pO (ar : Int) (d.1 : Int) (ln : Int) (c : Int) S)) rfl ?_
  generalize G3.set x2 (pO (ar : Int) (d.1 : Int) (ln : Int) (c : Int) S) = G3 at *
  refine AOps.nil (ARun.seq (ARun.region ?_))
  first
    | refine y_op rfl (q_fldP rfl rfl rfl (by decide)) ?_
    | refine y_op rfl (q_fldS rfl rfl rfl (by decide)) ?_
  refine y_op rfl (Zaa rfl rfl rfl hcv.pc rfl) ?_
  refine y_op rfl (OpQ.cast (d' := .bool (decide (10000 < d.1))) (q_int rfl rfl rfl) (congrArg D.bool (decide_eq_decide.2 (by omega)))) ?_
  refine zzm ?_
  apply AOps.orJ 133 (fun sj7 => [(133, .any), (134, .any), (135, .any), (136, .any), (137, .bool sj7)]) rfl
  · intro hj7 run7
    try replace hj7 := of_decide_eq_true hj7
    refine zzk ?_; refine zzk ?_; refine zzk ?_; refine zzp ?_
    exact AOps.ag run7
  · intro hj7 run7
    try replace hj7 := of_decide_eq_false hj7
    first
      | refine y_op rfl (q_fldP rfl rfl rfl (by decide)) ?_
      | refine y_op rfl (q_fldS rfl rfl rfl (by decide)) ?_
    refine y_op rfl (Zaa rfl rfl rfl hcv.pc rfl) ?_
    refine y_op rfl (OpQ.cast (d' := .bool (decide (64 < ar))) (q_int rfl rfl rfl) (congrArg D.bool (decide_eq_decide.2 (by omega)))) ?_
    refine zzp ?_
    exact AOps.ag run7
  refine AOps.nil ?_
  refine ARun.cond rfl (fun v => ?_) (fun v => ?_)
  · skip
    rw [v, cond_true] at hR
    subst hR
    refine ARun.region ?_; refine zzm ?_
    refine y_op rfl (Za9 rfl rfl rfl rfl rfl) ?_
    refine y_op rfl (Zgh rfl rfl rfl) ?_
    exact ZhT rfl rfl ⟨_, _, .same _, hcv.kp, rfl⟩
  rw [v, cond_false] at hR
  subst hR
  refine ARun.skip (ARun.seq (ARun.region ?_))
  refine y_op rfl (Zab rfl rfl rfl hcv.pc rfl rfl) ?_
  refine y_new rfl (Zak rfl rfl rfl rfl rfl rfl hcv.res rfl (Nat.le_of_ble_eq_true rfl) rfl) ?_
  refine AOps.nil ?_
  refine ARun.ret ?_
  refine ⟨_, _, _, ResR.cellA rfl rfl rfl (heap_set_get hcv.res) rfl rfl .nil, .cons (.same _) .nil, hcv.kp.put (by omega), rfl, ?_⟩
  show (G3.set x1 _)[k]? = _
  rw [List.getElem?_set_ne n1, hcv.rd, ← hl, drop_back (by omega)]
end Go.V
set_option maxHeartbeats 8000000
set_option maxRecDepth 100000
set_option synthInstance.maxSize 100000
set_option synthInstance.maxHeartbeats 2000000
namespace Go.V
open Go.RowKit Go.Proofs
theorem bare_pO (c : Nat) : pcA (bareP ByteArray.empty 0 0 0 c) = .agg [.str ByteArray.empty, .int .i64 0, .int .i64 0, .int .i64 0, .int .u8 (c : Int), .int .u64 0, .int .u64 0, .int .u64 0, .int .u64 0] := bare_cells _ _ _ _ _
theorem runL_len (f : Nat → Bool) (r : List Nat) : (runL f r).2.length ≤ r.length := by
  have := congrArg List.length (runL_app f r)
  rw [List.length_append] at this; omega
theorem runL_drop {s : ByteArray} {f : Nat → Bool} {i : Nat} (hi : i ≤ s.size) : (sby s).drop (s.size - (runL f ((sby s).drop i)).2.length) = (runL f ((sby s).drop i)).2 := by
  have h := (suf_drop (l := sby s) (i := i) (by rw [sby_len]; exact hi) (runL_app f ((sby s).drop i)).symm).1
  rwa [sby_len] at h
theorem Zix (H : Heap) (k : Nat) (s : ByteArray) (i n : Nat) (w pl : Bool) (hk : H[k]? = some (rdS s i n w pl)) (hi : i < s.size) (hmax : s.size ≤ 2000) (hn : n ≤ 1000) :
    HC Cg Zco H [.ptr k 0] (fun x H' => Kp H H' k ∧ match pieceL n w pl ((sby s).drop i) with
      | .err e q => x = .pan (wrongP e (s.size - q.length))
      | .ok p q c' w' pl' => x = .ret (pcA p) ∧ H'[k]? = some (rdS s (s.size - q.length) c' w' pl')) := by
  have hl := sby_len s
  have hklt := (List.getElem?_eq_some_iff.1 hk).1
  obtain ⟨R, hR⟩ : ∃ R, R = pieceL n w pl ((sby s).drop i) := ⟨_, rfl⟩
  rw [← hR]
  have e0 := drop_getD (sby s) i 0 (by omega)
  obtain ⟨c, hc⟩ : ∃ c, c = (sby s).getD i 0 := ⟨_, rfl⟩
  rw [← hc] at e0
  rw [e0, pieceL, ← e0] at hR
  refine HC.run ZaZ Zb4 rfl Zb5 (rs := [.cell 2 46]) (by rw [Zb6]) (by simp only [List.length_cons, List.length_nil, Nat.reduceAdd, Nat.reduceSub, List.replicate_succ, List.replicate_zero, List.cons_append, List.nil_append]; exact rfl) ?_
  refine ARun.seq (ARun.region ?_)
  refine y_new rfl (ZaN (ap := apZ H rfl) rfl rfl rfl rfl) ?_
  obtain ⟨x1, hx1⟩ : ∃ x1, x1 = H.length := ⟨_, rfl⟩
  have hkp : Kp H (H ++ [pO 0 0 0 0 sempty]) k := Kp.app
  have hrd : (H ++ [pO 0 0 0 0 sempty])[k]? = some (rdS s i n w pl) := get_app hk
  have hre : (H ++ [pO 0 0 0 0 sempty])[x1]? = some (pO 0 0 0 0 sempty) := get_last hx1
  rw [← hx1]
  have n1 : x1 ≠ k := by omega
  generalize H ++ [pO 0 0 0 0 sempty] = G at *
  refine AOps.nil (ARun.seq (ARun.block (ARun.seq ?_)))
  refine ARun.drawnP 13 (fun _ => False) mixC rfl rfl (by kernel_rfl) (fun _ _ h => h.elim) ?_
  refine .op rfl (q_move rfl) ?_
  refine .op rfl (q_nil rfl rfl) ?_
  refine .op rfl (q_fldP rfl rfl rfl (by decide)) ?_
  refine .op rfl (q_fldP rfl rfl rfl (by decide)) ?_
  refine .op rfl (Zaa rfl rfl rfl hrd rfl) ?_
  refine .op rfl (q_move rfl) ?_
  refine .op rfl (q_nil rfl rfl) ?_
  refine .op rfl (q_fldP rfl rfl rfl (by decide)) ?_
  refine .op rfl (q_fldP rfl rfl rfl (by decide)) ?_
  refine .op rfl (Zaa rfl rfl rfl hrd rfl) ?_
  refine .op rfl (Zai rfl rfl rfl (by omega) (by omega) (show _ = (c : Int) by rw [hc]; exact sby_get _)) ?_
  refine .op rfl (q_call rfl rfl (PC.g (Zed c))) ?_
  refine .op rfl (ZfS rfl) ?_
  refine .nil (fun hG => ?_)
  refine AOps.nil ?_
  refine ARun.cond rfl (fun y => ?_) (fun y => ?_)
  · skip
    rw [y, cond_true] at hR
    subst hR
    refine ARun.seq (ARun.region ?_); refine zzm ?_
    refine Zah rfl rfl rfl rfl (HC.g (hc_run G k s i n w pl hrd (by omega) (by omega) ZcA swhite Zed)) ?_ (by rintro _ _ ⟨h, _⟩; cases h)
    rintro q1 H1 ⟨f1, rfl⟩
    injection f1 with f1
    subst f1
    have hre2 : (G.set k (rdS s (s.size - (runL swhite ((sby s).drop i)).2.length) n w pl))[x1]? = some (pO 0 0 0 0 sempty) := by rw [List.getElem?_set_ne (fun e => n1 e.symm)]; exact hre
    refine AOps.nil (ARun.seq (ARun.region ?_))
    refine y_op rfl (Za9 rfl rfl rfl rfl rfl) ?_
    refine y_new rfl (Zak rfl rfl rfl rfl rfl rfl hre2 rfl (Nat.le_of_ble_eq_true rfl) rfl) ?_
    refine AOps.nil ?_
    refine ARun.ret ?_
    refine ⟨_, _, _, ResR.cellA rfl rfl rfl (heap_set_get hre2) rfl rfl .nil, .cons (.same _) .nil, (hkp.trans Kp.set).put (by omega), congrArg Out.ret (bare_pO 32).symm, ?_⟩
    show (List.set _ x1 _)[k]? = _
    rw [List.getElem?_set_ne n1, heap_set_get hrd]
  rw [y, cond_false] at hR
  refine ARun.seq (ARun.region ?_); refine zzm ?_
  refine y_op rfl (q_nil rfl rfl) ?_
  refine y_op rfl (q_fldP rfl rfl rfl (by decide)) ?_
  refine y_op rfl (Zdu rfl rfl rfl (HC.g (hc_is G k s i n 37 w pl hrd (by omega)))) ?_
  refine zza ?_; refine AOps.nil ?_
  have hh : hdIs ((sby s).drop i) 37 = decide (c = 37) := by rw [e0]; rfl
  rw [hh]
  refine ARun.ite rfl (fun z => ?_) (fun z => ?_)
  · skip
    rw [if_pos z] at hR
    refine ARun.seq (ARun.region ?_); refine zzm ?_
    refine y_op rfl (q_nil rfl rfl) ?_
    refine y_op rfl (q_fldP rfl rfl rfl (by decide)) ?_
    refine y_op rfl (q_fldP rfl rfl rfl (by decide)) ?_
    refine y_op rfl (Zaa rfl rfl rfl hrd rfl) ?_
    refine y_op rfl (OpQ.cast (d' := .int .i64 ((i + 1 : Nat) : Int)) (q_int rfl rfl rfl) (congrArg (D.int .i64) (by show IntKind.i64.wrap _ = _; rw [IntWalk.i64_in _ (by omega)]; omega))) ?_
    refine y_op rfl (q_nil rfl rfl) ?_
    refine y_op rfl (q_fldP rfl rfl rfl (by decide)) ?_
    refine y_op rfl (q_fldP rfl rfl rfl (by decide)) ?_
    refine y_new rfl (Zad rfl rfl rfl rfl hrd rfl (Nat.le_of_ble_eq_true rfl) rfl) ?_
    have hkp := hkp.trans (Kp.set (x := rdS s (i + 1) n w pl))
    have hre : (G.set k (rdS s (i + 1) n w pl))[x1]? = some (pO 0 0 0 0 sempty) := by rw [List.getElem?_set_ne (fun e => n1 e.symm)]; exact hre
    have hrd : (G.set k (rdS s (i + 1) n w pl))[k]? = some (rdS s (i + 1) n w pl) := heap_set_get hrd
    refine AOps.hp (H' := G.set k (rdS s (i + 1) n w pl)) rfl ?_
    generalize G.set k (rdS s (i + 1) n w pl) = G at *
    refine AOps.nil (ARun.seq (ARun.seq (ARun.region ?_))); refine zzm ?_
    refine y_op rfl (q_nil rfl rfl) ?_
    refine y_op rfl (q_fldP rfl rfl rfl (by decide)) ?_
    refine y_op rfl (Zdu rfl rfl rfl (HC.g (hc_is G k s (i + 1) n 37 w pl hrd (by omega)))) ?_
    refine AOps.nil ?_
    refine ARun.cond rfl (fun v => ?_) (fun v => ?_)
    · skip
      have hp := hdIs_len v
      rw [List.length_drop, hl] at hp
      rw [v, cond_true] at hR
      subst hR
      refine ARun.seq (ARun.region ?_); refine zzm ?_
      refine y_op rfl (q_nil rfl rfl) ?_
      refine y_op rfl (q_fldP rfl rfl rfl (by decide)) ?_
      refine y_op rfl (q_fldP rfl rfl rfl (by decide)) ?_
      refine y_op rfl (Zaa rfl rfl rfl hrd rfl) ?_
      refine y_op rfl (OpQ.cast (d' := .int .i64 ((i + 1 + 1 : Nat) : Int)) (q_int rfl rfl rfl) (congrArg (D.int .i64) (by show IntKind.i64.wrap _ = _; rw [IntWalk.i64_in _ (by omega)]; omega))) ?_
      refine y_op rfl (q_nil rfl rfl) ?_
      refine y_op rfl (q_fldP rfl rfl rfl (by decide)) ?_
      refine y_op rfl (q_fldP rfl rfl rfl (by decide)) ?_
      refine y_new rfl (Zad rfl rfl rfl rfl hrd rfl (Nat.le_of_ble_eq_true rfl) rfl) ?_
      have hkp := hkp.trans (Kp.set (x := rdS s (i + 1 + 1) n w pl))
      have hre : (G.set k (rdS s (i + 1 + 1) n w pl))[x1]? = some (pO 0 0 0 0 sempty) := by rw [List.getElem?_set_ne (fun e => n1 e.symm)]; exact hre
      have hrd : (G.set k (rdS s (i + 1 + 1) n w pl))[k]? = some (rdS s (i + 1 + 1) n w pl) := heap_set_get hrd
      refine AOps.hp (H' := G.set k (rdS s (i + 1 + 1) n w pl)) rfl ?_
      generalize G.set k (rdS s (i + 1 + 1) n w pl) = G at *
      refine AOps.nil (ARun.seq (ARun.region ?_))
      refine y_op rfl (Za9 rfl rfl rfl rfl rfl) ?_
      refine y_new rfl (Zak rfl rfl rfl rfl rfl rfl hre rfl (Nat.le_of_ble_eq_true rfl) rfl) ?_
      refine AOps.nil ?_
      refine ARun.ret ?_
      refine ⟨_, _, _, ResR.cellA rfl rfl rfl (heap_set_get hre) rfl rfl .nil, .cons (.same _) .nil, hkp.put (by omega), congrArg Out.ret (bare_pO 37).symm, ?_⟩
      show (List.set _ x1 _)[k]? = _
      rw [List.getElem?_set_ne n1, hrd, drop_drop1, ← hl, drop_back (by omega)]
    rw [v, cond_false] at hR
    have hcv := Zgg G k s (i + 1) n w pl hrd (by omega) (by omega) hmax hn
    generalize convL n w pl ((sby s).drop (i + 1)) = X at *
    cases X with
    | bad =>
      subst hR
      refine ARun.skip (ARun.seq (ARun.region ?_)); refine zzm ?_
      refine Zah rfl rfl rfl rfl hcv (by rintro _ _ ⟨_, h⟩; cases h) (fun q H' hq => by obtain ⟨hq1, hq⟩ := hq; injection hq with hq; subst hq; exact ⟨_, _, .same _, hkp.trans hq1, by show Out.pan _ = Out.pan _; rw [← hl, drop_back (by omega)]; rfl⟩)
    | lim =>
      subst hR
      refine ARun.skip (ARun.seq (ARun.region ?_)); refine zzm ?_
      refine Zah rfl rfl rfl rfl hcv (by rintro _ _ ⟨_, h⟩; cases h) (fun q H' hq => by obtain ⟨hq1, hq⟩ := hq; injection hq with hq; subst hq; exact ⟨_, _, .same _, hkp.trans hq1, by show Out.pan _ = Out.pan _; rw [← hl, drop_back (by omega)]; rfl⟩)
    | ok p q c' w' pl' =>
      subst hR
      refine ARun.skip (ARun.seq (ARun.region ?_)); refine zzm ?_
      refine Zah rfl rfl rfl rfl hcv ?_ (by rintro _ _ ⟨_, h, _⟩; cases h)
      rintro q1 H1 ⟨f0, f1, f2⟩
      injection f1 with f1
      subst f1
      have hre2 : H1[x1]? = some (pO 0 0 0 0 sempty) := (f0.2 x1 (List.getElem?_eq_some_iff.1 hre).1 n1).trans hre
      refine y_new rfl (Zak rfl rfl rfl rfl rfl rfl hre2 rfl (Nat.le_of_ble_eq_true rfl) rfl) ?_
      refine AOps.nil ?_
      refine ARun.ret ?_
      refine ⟨_, _, _, ResR.cellA rfl rfl rfl (heap_set_get hre2) rfl rfl .nil, .cons (.same _) .nil, (hkp.trans f0).put (by omega), rfl, ?_⟩
      show (List.set _ x1 _)[k]? = _
      rw [List.getElem?_set_ne n1, f2]
  rw [if_neg z] at hR
  refine ARun.skip (ARun.inBlock (ARun.seq (ARun.region ?_))); refine zzm ?_
  refine Zah rfl rfl rfl rfl (HC.g (hc_run G k s i n w pl hrd (by omega) (by omega) ZcB splain ZfP)) ?_ (by rintro _ _ ⟨h, _⟩; cases h)
  rintro q1 H1 ⟨f1, rfl⟩
  injection f1 with f1
  subst f1
  have hrl := runL_len splain ((sby s).drop i)
  have hrd2 := runL_drop (s := s) (f := splain) (i := i) (by omega)
  rw [List.length_drop, hl] at hrl
  have hkp := hkp.trans (Kp.set (x := rdS s (s.size - (runL splain ((sby s).drop i)).2.length) n w pl))
  have hre : (G.set k (rdS s (s.size - (runL splain ((sby s).drop i)).2.length) n w pl))[x1]? = some (pO 0 0 0 0 sempty) := by rw [List.getElem?_set_ne (fun e => n1 e.symm)]; exact hre
  have hrd := heap_set_get (y := rdS s (s.size - (runL splain ((sby s).drop i)).2.length) n w pl) hrd
  generalize G.set k (rdS s (s.size - (runL splain ((sby s).drop i)).2.length) n w pl) = G at *
  generalize runL splain ((sby s).drop i) = V at *
  have hI := HC.g (hc_is G k s (s.size - V.2.length) n 0 w pl hrd (by omega))
  rw [hrd2] at hI
  refine y_op rfl (Za9 rfl rfl rfl rfl rfl) ?_
  refine Zbb rfl rfl rfl rfl rfl rfl rfl rfl rfl rfl rfl ?_
  refine AOps.nil (ARun.seq (ARun.seq (ARun.region ?_))); refine zzm ?_
  refine y_op rfl (q_nil rfl rfl) ?_
  refine y_op rfl (q_fldP rfl rfl rfl (by decide)) ?_
  refine y_op rfl (Zdu rfl rfl rfl hI) ?_
  refine AOps.nil ?_
  refine ARun.cond rfl (fun v => ?_) (fun v => ?_)
  · skip
    rw [v, cond_true] at hR
    subst hR
    refine ARun.region ?_; refine zzm ?_
    refine y_op rfl (q_nil rfl rfl) ?_
    refine y_op rfl (q_fldP rfl rfl rfl (by decide)) ?_
    refine y_op rfl (q_fldP rfl rfl rfl (by decide)) ?_
    refine y_op rfl (Zaa rfl rfl rfl hrd rfl) ?_
    refine Zah rfl rfl rfl rfl (HC.g (hc_bad G (s.size - V.2.length))) (by rintro _ _ ⟨h, _⟩; cases h) (fun q H' hq => by obtain ⟨hq, rfl⟩ := hq; injection hq with hq; subst hq; exact ⟨_, _, .same _, hkp, rfl⟩)
  rw [v, cond_false] at hR
  subst hR
  refine ARun.skip (ARun.seq (ARun.region ?_)); refine zzL ?_
  refine y_new rfl (Zak rfl rfl rfl rfl rfl rfl hre rfl (Nat.le_of_ble_eq_true rfl) rfl) ?_
  refine AOps.nil ?_
  refine ARun.ret ?_
  refine ⟨_, _, _, ResR.cellA rfl rfl rfl (heap_set_get hre) rfl rfl .nil, .cons (.same _) .nil, hkp.put (by omega), congrArg Out.ret (bare_cells (bytesOf V.1) 0 0 0 0).symm, ?_⟩
  show (List.set _ x1 _)[k]? = _
  rw [List.getElem?_set_ne n1, hrd]
end Go.V
