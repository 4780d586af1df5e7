/- A part of the proof: abstract values, rules for the steps of the program's form, and contracts of its functions, each proved; no condition. -/
import Derived.Test.YthankfodgdfgaaaDoorA10
set_option linter.unusedVariables false
set_option linter.unusedSimpArgs false
set_option linter.unnecessarySimpa false
set_option maxHeartbeats 8000000
set_option maxRecDepth 100000
set_option synthInstance.maxSize 100000
set_option synthInstance.maxHeartbeats 2000000
namespace Go.V
open Go.RowKit Go.Proofs
/-! THE READER: small steps. -/
abbrev rdS (s : ByteArray) (i c : Nat) (w pl : Bool) : Option AObj := some ⟨[.str s, .int .i64 (i : Int), .int .i64 (c : Int), .bool w, .bool pl], ZdC, 1, true, none⟩
abbrev wrongP (e : Int) (i : Nat) : D := .iface Zd3 (.agg [.int .i64 e, .int .i64 (i : Int)])
theorem ZgL (H : Heap) (k : Nat) (s : ByteArray) (i n c : Nat) (w pl : Bool) (hk : H[k]? = some (rdS s i n w pl)) (g : i < s.size) (hmax : s.size ≤ 1099511627776) : HC C ZaY H [.ptr k 0, .int .u8 (c : Int)] (fun x H' => x = .ret (.bool (decide ((sby s).getD i 0 = c))) ∧ H' = H) := by
  refine HC.run ZaQ Zbr rfl Zbs (rs := [.tmp 4]) (by rw [Zbt]) (by simp only [List.length_cons, List.length_nil, Nat.reduceAdd, Nat.reduceSub, List.replicate_succ, List.replicate_zero, List.cons_append, List.nil_append]; exact rfl) ?_
  refine ARun.seq (ARun.region ?_); refine zza ?_; refine AOps.nil (ARun.seq ?_)
  refine ARun.drawnP 23 (fun _ => False) mixC rfl rfl (by kernel_rfl) (fun _ _ h => h.elim) ?_
  refine .op rfl (q_move rfl) ?_
  refine .op rfl (q_nil rfl rfl) ?_
  refine .op rfl (q_fldP rfl rfl rfl (by decide)) ?_
  refine .op rfl (Zaa rfl rfl rfl hk rfl) ?_
  refine .op rfl (q_move rfl) ?_
  refine .op rfl (q_nil rfl rfl) ?_
  refine .op rfl (q_fldP rfl rfl rfl (by decide)) ?_
  refine .op rfl (Zaa rfl rfl rfl hk rfl) ?_
  refine .op rfl (Zae rfl rfl) ?_
  refine .op rfl (OpQ.cast (d' := .bool true) (q_int rfl rfl rfl) (congrArg D.bool (decide_eq_true (by omega)))) ?_
  refine .op rfl (q_move rfl) ?_
  refine .op rfl (q_move rfl) ?_
  refine .op rfl (q_nil rfl rfl) ?_
  refine .op rfl (q_fldP rfl rfl rfl (by decide)) ?_
  refine .op rfl (Zaa rfl rfl rfl hk rfl) ?_
  refine .op rfl (q_move rfl) ?_
  refine .op rfl (q_nil rfl rfl) ?_
  refine .op rfl (q_fldP rfl rfl rfl (by decide)) ?_
  refine .op rfl (Zaa rfl rfl rfl hk rfl) ?_
  refine .op rfl (Zaq rfl rfl rfl (by omega) (by omega) (sby_get _)) ?_
  refine .op rfl (q_move rfl) ?_
  refine .op rfl (OpQ.cast (q_int rfl rfl rfl) (congrArg D.bool (int_dec (m := c) rfl))) ?_
  refine .op rfl (q_pick rfl rfl rfl rfl) ?_
  refine .nil (fun hG => ?_)
  refine zza ?_; refine AOps.nil ?_
  refine ARun.ret ?_
  exact ⟨_, _, _, .tmp rfl .nil, .cons (.same _) .nil, rfl, rfl⟩
theorem ZgM (H : Heap) (k : Nat) (s : ByteArray) (i n c : Nat) (w pl : Bool) (hk : H[k]? = some (rdS s i n w pl)) (g : ¬ i < s.size) (hmax : s.size ≤ 1099511627776) : HC C ZaY H [.ptr k 0, .int .u8 (c : Int)] (fun x H' => x = .ret (.bool false) ∧ H' = H) := by
  refine HC.run ZaQ Zbr rfl Zbs (rs := [.tmp 4]) (by rw [Zbt]) (by simp only [List.length_cons, List.length_nil, Nat.reduceAdd, Nat.reduceSub, List.replicate_succ, List.replicate_zero, List.cons_append, List.nil_append]; exact rfl) ?_
  refine ARun.seq (ARun.region ?_); refine zza ?_; refine AOps.nil (ARun.seq ?_)
  refine ARun.drawnP 23 (fun _ => False) mixC rfl rfl (by kernel_rfl) (fun _ _ h => h.elim) ?_
  refine .op rfl (q_move rfl) ?_
  refine .op rfl (q_nil rfl rfl) ?_
  refine .op rfl (q_fldP rfl rfl rfl (by decide)) ?_
  refine .op rfl (Zaa rfl rfl rfl hk rfl) ?_
  refine .op rfl (q_move rfl) ?_
  refine .op rfl (q_nil rfl rfl) ?_
  refine .op rfl (q_fldP rfl rfl rfl (by decide)) ?_
  refine .op rfl (Zaa rfl rfl rfl hk rfl) ?_
  refine .op rfl (Zae rfl rfl) ?_
  refine .op rfl (OpQ.cast (d' := .bool false) (q_int rfl rfl rfl) (congrArg D.bool (decide_eq_false (by omega)))) ?_
  refine .op rfl (q_move rfl) ?_
  refine .skip rfl ?_
  refine .skip rfl ?_
  refine .skip rfl ?_
  refine .skip rfl ?_
  refine .skip rfl ?_
  refine .skip rfl ?_
  refine .skip rfl ?_
  refine .skip rfl ?_
  refine .skip rfl ?_
  refine .skip rfl ?_
  refine .skip rfl ?_
  refine .op rfl (q_pick rfl rfl rfl rfl) ?_
  refine .nil (fun hG => ?_)
  refine zza ?_; refine AOps.nil ?_
  refine ARun.ret ?_
  exact ⟨_, _, _, .tmp rfl .nil, .cons (.same _) .nil, rfl, rfl⟩
theorem hc_is (H : Heap) (k : Nat) (s : ByteArray) (i n c : Nat) (w pl : Bool) (hk : H[k]? = some (rdS s i n w pl)) (hmax : s.size ≤ 1099511627776) : HC C ZaY H [.ptr k 0, .int .u8 (c : Int)] (fun x H' => x = .ret (.bool (hdIs ((sby s).drop i) c)) ∧ H' = H) := by
  rw [hdIs_drop, sby_len]
  by_cases g : i < s.size
  · rw [decide_eq_true g, Bool.true_and]; exact ZgL H k s i n c w pl hk g hmax
  rw [decide_eq_false g, Bool.false_and]; exact ZgM H k s i n c w pl hk g hmax
theorem dgL_yes {s : ByteArray} {i n : Nat} (h : i < s.size) (g : sdp n ((sby s).getD i 0) = true) : dgL n ((sby s).drop i) = dgL (min 100000 (10 * n + ((sby s).getD i 0 - 48))) ((sby s).drop (i + 1)) := by
  rw [drop_getD (sby s) i 0 (by rw [sby_len]; exact h), dgL, if_pos g]
theorem dgL_no {s : ByteArray} {i n : Nat} (h : ¬ (i < s.size ∧ sdp n ((sby s).getD i 0) = true)) : dgL n ((sby s).drop i) = (n, (sby s).drop i) := by
  rcases Nat.lt_or_ge i s.size with g | g
  · rw [drop_getD (sby s) i 0 (by rw [sby_len]; exact g), dgL, if_neg (fun e => h ⟨g, e⟩)]
  rw [List.drop_eq_nil_of_le (by rw [sby_len]; exact g), dgL]
theorem drop_back {l : List Nat} {i : Nat} (h : i ≤ l.length) : l.length - (l.drop i).length = i := by rw [List.length_drop]; omega
theorem Zfl (H : Heap) (k : Nat) (s : ByteArray) (i0 m : Nat) (w pl : Bool) (hk : H[k]? = some (rdS s i0 m w pl)) (hi : i0 ≤ s.size) (hmax : s.size ≤ 1099511627776) : HC C Zcs H [.ptr k 0] (fun x H' => x = .ret (.int .i64 (((dgL 0 ((sby s).drop i0)).1 : Nat) : Int)) ∧ H' = H.set k (rdS s (s.size - (dgL 0 ((sby s).drop i0)).2.length) m w pl)) := by
  obtain ⟨R, hR⟩ : ∃ R, R = dgL 0 ((sby s).drop i0) := ⟨_, rfl⟩
  rw [← hR]
  have hl := sby_len s
  refine HC.run Za4 Zcg rfl Zch (rs := [.tmp 2]) (by rw [Zci]) (by simp only [List.length_cons, List.length_nil, Nat.reduceAdd, Nat.reduceSub, List.replicate_succ, List.replicate_zero, List.cons_append, List.nil_append]; exact rfl) ?_
  refine ARun.seq (ARun.region ?_); refine zza ?_; refine AOps.nil (ARun.seq (ARun.region ?_)); refine zza ?_; refine AOps.nil (ARun.seq (ARun.block ?_))
  refine ARun.loopI (S := Nat × Nat) (fun σ : Nat × Nat => [(3, .int .i64 (σ.1 : Int)), (4, .any), (5, .any), (6, .any), (7, .any), (8, .any), (9, .any), (10, .any), (11, .any), (12, .any), (13, .any), (14, .any), (15, .any), (16, .any), (17, .any), (18, .any), (19, .any), (20, .any), (21, .any), (22, .any), (23, .any), (24, .any), (25, .any), (26, .any), (27, .any), (28, .any), (29, .any), (30, .any), (31, .any), (32, .any), (33, .any), (34, .any), (35, .any), (36, .any), (37, .any), (38, .any), (39, .any), (40, .any), (41, .any), (42, .any), (43, .any), (44, .any), (45, .any), (46, .any), (47, .any), (48, .any), (49, .any), (50, .any), (51, .any), (52, .any), (53, .any), (54, .any), (55, .any), (56, .any), (57, .any), (58, .any), (59, .any), (60, .any), (61, .any), (62, .any), (63, .any), (64, .any), (65, .any), (66, .any), (67, .any), (68, .any), (69, .any), (70, .any), (71, .any), (72, .any), (73, .any), (74, .any), (75, .any)]) (fun σ : Nat × Nat => H.set k (rdS s σ.2 m w pl)) (fun σ : Nat × Nat => σ.2 ≤ s.size ∧ σ.1 ≤ 100000 ∧ R = dgL σ.1 ((sby s).drop σ.2)) (fun σ : Nat × Nat => s.size - σ.2) ((0, i0)) ?_ ?_ ?_ ?_
  · exact ⟨hi, Nat.zero_le _, hR⟩
  · (repeat' first | exact envLe_nil | apply envLe_any | apply envLe_same)
  · exact (heap_set_self hk).symm
  rintro ⟨n, i⟩ hinv ih
  dsimp only at hinv ih ⊢
  obtain ⟨i1, i2, i3⟩ := hinv
  have hk1 : (H.set k (rdS s i m w pl))[k]? = some (rdS s i m w pl) := heap_set_get hk
  have hb := sby_lt (s := s) i
  refine ARun.seq (ARun.seq ?_)
  refine ARun.joinH (S := Bool) (fun b : Bool => [(4, .any), (5, .any), (6, .any), (7, .any), (8, .any), (9, .any), (10, .any), (11, .any), (12, .any), (13, .any), (14, .any), (15, .any), (16, .any), (17, .any), (18, .any), (19, .any), (20, .any), (21, .any), (22, .any), (23, .any), (24, .any), (25, .any), (26, .any), (27, .any), (28, .any), (29, .any), (30, .any), (31, .any), (32, .any), (33, .any), (34, .any), (35, .any), (36, .any), (37, .any), (38, .any), (39, .any), (40, .any), (41, .any), (42, .any), (43, .any), (44, .any), (45, .any), (46, .any), (47, .any), (48, .any), (49, .any), (50, .any), (51, .any), (52, .any), (53, .bool b)]) (fun b : Bool => H.set k (rdS s i m w pl)) (fun b : Bool => b = (decide (i < s.size) && sdp n ((sby s).getD i 0))) (fun run => ?_) ?_
  · skip
    by_cases g : i < s.size
    · rw [decide_eq_true g, Bool.true_and] at run
      unfold sdp at run
      by_cases c1 : 48 ≤ (sby s).getD i 0
      · rw [decide_eq_true c1, Bool.true_and] at run
        by_cases c2 : (sby s).getD i 0 ≤ 57
        · rw [decide_eq_true c2, Bool.true_and] at run
          by_cases c3 : 0 < n
          · rw [decide_eq_true c3, Bool.true_or] at run
            refine ARun.drawnP 50 (fun _ => False) mixC rfl rfl (by kernel_rfl) (fun _ _ h => h.elim) ?_
            refine .op rfl (q_move rfl) ?_
            refine .op rfl (q_nil rfl rfl) ?_
            refine .op rfl (q_fldP rfl rfl rfl (by decide)) ?_
            refine .op rfl (Zaa rfl rfl rfl hk1 rfl) ?_
            refine .op rfl (q_move rfl) ?_
            refine .op rfl (q_nil rfl rfl) ?_
            refine .op rfl (q_fldP rfl rfl rfl (by decide)) ?_
            refine .op rfl (Zaa rfl rfl rfl hk1 rfl) ?_
            refine .op rfl (Zae rfl rfl) ?_
            refine .op rfl (OpQ.cast (d' := .bool true) (q_int rfl rfl rfl) (congrArg D.bool (decide_eq_true (by omega)))) ?_
            refine .op rfl (q_move rfl) ?_
            refine .op rfl (q_move rfl) ?_
            refine .op rfl (q_nil rfl rfl) ?_
            refine .op rfl (q_fldP rfl rfl rfl (by decide)) ?_
            refine .op rfl (Zaa rfl rfl rfl hk1 rfl) ?_
            refine .op rfl (q_move rfl) ?_
            refine .op rfl (q_nil rfl rfl) ?_
            refine .op rfl (q_fldP rfl rfl rfl (by decide)) ?_
            refine .op rfl (Zaa rfl rfl rfl hk1 rfl) ?_
            refine .op rfl (Zaq rfl rfl rfl (by omega) (by omega) (sby_get _)) ?_
            refine .op rfl (OpQ.cast (d' := .bool true) (q_int rfl rfl rfl) (congrArg D.bool ((u8_ge (m := 48) rfl).trans (decide_eq_true c1)))) ?_
            refine .op rfl (q_pick rfl rfl rfl rfl) ?_
            refine .op rfl (q_move rfl) ?_
            refine .op rfl (q_move rfl) ?_
            refine .op rfl (q_nil rfl rfl) ?_
            refine .op rfl (q_fldP rfl rfl rfl (by decide)) ?_
            refine .op rfl (Zaa rfl rfl rfl hk1 rfl) ?_
            refine .op rfl (q_move rfl) ?_
            refine .op rfl (q_nil rfl rfl) ?_
            refine .op rfl (q_fldP rfl rfl rfl (by decide)) ?_
            refine .op rfl (Zaa rfl rfl rfl hk1 rfl) ?_
            refine .op rfl (Zaq rfl rfl rfl (by omega) (by omega) (sby_get _)) ?_
            refine .op rfl (OpQ.cast (d' := .bool true) (q_int rfl rfl rfl) (congrArg D.bool ((u8_le (m := 57) rfl).trans (decide_eq_true c2)))) ?_
            refine .op rfl (q_pick rfl rfl rfl rfl) ?_
            refine .op rfl (q_move rfl) ?_
            refine .op rfl (q_move rfl) ?_
            refine .op rfl (OpQ.cast (d' := .bool true) (q_int rfl rfl rfl) (congrArg D.bool (decide_eq_true (by omega)))) ?_
            refine .op rfl (q_move rfl) ?_
            refine .skip rfl ?_
            refine .skip rfl ?_
            refine .skip rfl ?_
            refine .skip rfl ?_
            refine .skip rfl ?_
            refine .skip rfl ?_
            refine .skip rfl ?_
            refine .skip rfl ?_
            refine .skip rfl ?_
            refine .skip rfl ?_
            refine .op rfl (q_pick rfl rfl rfl rfl) ?_
            refine .op rfl (q_pick rfl rfl rfl rfl) ?_
            refine .nil (fun hG => ?_)
            refine AOps.nil ?_
            exact ARun.ag (run (true) (rfl))
          rw [decide_eq_false c3, Bool.false_or] at run
          refine ARun.drawnP 50 (fun _ => False) mixC rfl rfl (by kernel_rfl) (fun _ _ h => h.elim) ?_
          refine .op rfl (q_move rfl) ?_
          refine .op rfl (q_nil rfl rfl) ?_
          refine .op rfl (q_fldP rfl rfl rfl (by decide)) ?_
          refine .op rfl (Zaa rfl rfl rfl hk1 rfl) ?_
          refine .op rfl (q_move rfl) ?_
          refine .op rfl (q_nil rfl rfl) ?_
          refine .op rfl (q_fldP rfl rfl rfl (by decide)) ?_
          refine .op rfl (Zaa rfl rfl rfl hk1 rfl) ?_
          refine .op rfl (Zae rfl rfl) ?_
          refine .op rfl (OpQ.cast (d' := .bool true) (q_int rfl rfl rfl) (congrArg D.bool (decide_eq_true (by omega)))) ?_
          refine .op rfl (q_move rfl) ?_
          refine .op rfl (q_move rfl) ?_
          refine .op rfl (q_nil rfl rfl) ?_
          refine .op rfl (q_fldP rfl rfl rfl (by decide)) ?_
          refine .op rfl (Zaa rfl rfl rfl hk1 rfl) ?_
          refine .op rfl (q_move rfl) ?_
          refine .op rfl (q_nil rfl rfl) ?_
          refine .op rfl (q_fldP rfl rfl rfl (by decide)) ?_
          refine .op rfl (Zaa rfl rfl rfl hk1 rfl) ?_
          refine .op rfl (Zaq rfl rfl rfl (by omega) (by omega) (sby_get _)) ?_
          refine .op rfl (OpQ.cast (d' := .bool true) (q_int rfl rfl rfl) (congrArg D.bool ((u8_ge (m := 48) rfl).trans (decide_eq_true c1)))) ?_
          refine .op rfl (q_pick rfl rfl rfl rfl) ?_
          refine .op rfl (q_move rfl) ?_
          refine .op rfl (q_move rfl) ?_
          refine .op rfl (q_nil rfl rfl) ?_
          refine .op rfl (q_fldP rfl rfl rfl (by decide)) ?_
          refine .op rfl (Zaa rfl rfl rfl hk1 rfl) ?_
          refine .op rfl (q_move rfl) ?_
          refine .op rfl (q_nil rfl rfl) ?_
          refine .op rfl (q_fldP rfl rfl rfl (by decide)) ?_
          refine .op rfl (Zaa rfl rfl rfl hk1 rfl) ?_
          refine .op rfl (Zaq rfl rfl rfl (by omega) (by omega) (sby_get _)) ?_
          refine .op rfl (OpQ.cast (d' := .bool true) (q_int rfl rfl rfl) (congrArg D.bool ((u8_le (m := 57) rfl).trans (decide_eq_true c2)))) ?_
          refine .op rfl (q_pick rfl rfl rfl rfl) ?_
          refine .op rfl (q_move rfl) ?_
          refine .op rfl (q_move rfl) ?_
          refine .op rfl (OpQ.cast (d' := .bool false) (q_int rfl rfl rfl) (congrArg D.bool (decide_eq_false (by omega)))) ?_
          refine .op rfl (q_move rfl) ?_
          refine .op rfl (q_move rfl) ?_
          refine .op rfl (q_nil rfl rfl) ?_
          refine .op rfl (q_fldP rfl rfl rfl (by decide)) ?_
          refine .op rfl (Zaa rfl rfl rfl hk1 rfl) ?_
          refine .op rfl (q_move rfl) ?_
          refine .op rfl (q_nil rfl rfl) ?_
          refine .op rfl (q_fldP rfl rfl rfl (by decide)) ?_
          refine .op rfl (Zaa rfl rfl rfl hk1 rfl) ?_
          refine .op rfl (Zaq rfl rfl rfl (by omega) (by omega) (sby_get _)) ?_
          refine .op rfl (OpQ.cast (d' := .bool (decide (48 < (sby s).getD i 0))) (q_int rfl rfl rfl) (congrArg D.bool ((u8_ne (m := 48) rfl).trans (decide_eq_decide.2 (by omega))))) ?_
          refine .op rfl (q_pick rfl rfl rfl rfl) ?_
          refine .op rfl (q_pick rfl rfl rfl rfl) ?_
          refine .nil (fun hG => ?_)
          refine AOps.nil ?_
          exact ARun.ag (run (decide (48 < (sby s).getD i 0)) (rfl))
        rw [decide_eq_false c2, Bool.false_and] at run
        refine ARun.drawnP 50 (fun _ => False) mixC rfl rfl (by kernel_rfl) (fun _ _ h => h.elim) ?_
        refine .op rfl (q_move rfl) ?_
        refine .op rfl (q_nil rfl rfl) ?_
        refine .op rfl (q_fldP rfl rfl rfl (by decide)) ?_
        refine .op rfl (Zaa rfl rfl rfl hk1 rfl) ?_
        refine .op rfl (q_move rfl) ?_
        refine .op rfl (q_nil rfl rfl) ?_
        refine .op rfl (q_fldP rfl rfl rfl (by decide)) ?_
        refine .op rfl (Zaa rfl rfl rfl hk1 rfl) ?_
        refine .op rfl (Zae rfl rfl) ?_
        refine .op rfl (OpQ.cast (d' := .bool true) (q_int rfl rfl rfl) (congrArg D.bool (decide_eq_true (by omega)))) ?_
        refine .op rfl (q_move rfl) ?_
        refine .op rfl (q_move rfl) ?_
        refine .op rfl (q_nil rfl rfl) ?_
        refine .op rfl (q_fldP rfl rfl rfl (by decide)) ?_
        refine .op rfl (Zaa rfl rfl rfl hk1 rfl) ?_
        refine .op rfl (q_move rfl) ?_
        refine .op rfl (q_nil rfl rfl) ?_
        refine .op rfl (q_fldP rfl rfl rfl (by decide)) ?_
        refine .op rfl (Zaa rfl rfl rfl hk1 rfl) ?_
        refine .op rfl (Zaq rfl rfl rfl (by omega) (by omega) (sby_get _)) ?_
        refine .op rfl (OpQ.cast (d' := .bool true) (q_int rfl rfl rfl) (congrArg D.bool ((u8_ge (m := 48) rfl).trans (decide_eq_true c1)))) ?_
        refine .op rfl (q_pick rfl rfl rfl rfl) ?_
        refine .op rfl (q_move rfl) ?_
        refine .op rfl (q_move rfl) ?_
        refine .op rfl (q_nil rfl rfl) ?_
        refine .op rfl (q_fldP rfl rfl rfl (by decide)) ?_
        refine .op rfl (Zaa rfl rfl rfl hk1 rfl) ?_
        refine .op rfl (q_move rfl) ?_
        refine .op rfl (q_nil rfl rfl) ?_
        refine .op rfl (q_fldP rfl rfl rfl (by decide)) ?_
        refine .op rfl (Zaa rfl rfl rfl hk1 rfl) ?_
        refine .op rfl (Zaq rfl rfl rfl (by omega) (by omega) (sby_get _)) ?_
        refine .op rfl (OpQ.cast (d' := .bool false) (q_int rfl rfl rfl) (congrArg D.bool ((u8_le (m := 57) rfl).trans (decide_eq_false c2)))) ?_
        refine .op rfl (q_pick rfl rfl rfl rfl) ?_
        refine .op rfl (q_move rfl) ?_
        refine .skip rfl ?_
        refine .skip rfl ?_
        refine .skip rfl ?_
        refine .skip rfl ?_
        refine .skip rfl ?_
        refine .skip rfl ?_
        refine .skip rfl ?_
        refine .skip rfl ?_
        refine .skip rfl ?_
        refine .skip rfl ?_
        refine .skip rfl ?_
        refine .skip rfl ?_
        refine .skip rfl ?_
        refine .skip rfl ?_
        refine .op rfl (q_pick rfl rfl rfl rfl) ?_
        refine .nil (fun hG => ?_)
        refine AOps.nil ?_
        exact ARun.ag (run (false) (rfl))
      rw [decide_eq_false c1, Bool.false_and, Bool.false_and] at run
      refine ARun.drawnP 50 (fun _ => False) mixC rfl rfl (by kernel_rfl) (fun _ _ h => h.elim) ?_
      refine .op rfl (q_move rfl) ?_
      refine .op rfl (q_nil rfl rfl) ?_
      refine .op rfl (q_fldP rfl rfl rfl (by decide)) ?_
      refine .op rfl (Zaa rfl rfl rfl hk1 rfl) ?_
      refine .op rfl (q_move rfl) ?_
      refine .op rfl (q_nil rfl rfl) ?_
      refine .op rfl (q_fldP rfl rfl rfl (by decide)) ?_
      refine .op rfl (Zaa rfl rfl rfl hk1 rfl) ?_
      refine .op rfl (Zae rfl rfl) ?_
      refine .op rfl (OpQ.cast (d' := .bool true) (q_int rfl rfl rfl) (congrArg D.bool (decide_eq_true (by omega)))) ?_
      refine .op rfl (q_move rfl) ?_
      refine .op rfl (q_move rfl) ?_
      refine .op rfl (q_nil rfl rfl) ?_
      refine .op rfl (q_fldP rfl rfl rfl (by decide)) ?_
      refine .op rfl (Zaa rfl rfl rfl hk1 rfl) ?_
      refine .op rfl (q_move rfl) ?_
      refine .op rfl (q_nil rfl rfl) ?_
      refine .op rfl (q_fldP rfl rfl rfl (by decide)) ?_
      refine .op rfl (Zaa rfl rfl rfl hk1 rfl) ?_
      refine .op rfl (Zaq rfl rfl rfl (by omega) (by omega) (sby_get _)) ?_
      refine .op rfl (OpQ.cast (d' := .bool false) (q_int rfl rfl rfl) (congrArg D.bool ((u8_ge (m := 48) rfl).trans (decide_eq_false c1)))) ?_
      refine .op rfl (q_pick rfl rfl rfl rfl) ?_
      refine .op rfl (q_move rfl) ?_
      refine .skip rfl ?_
      refine .skip rfl ?_
      refine .skip rfl ?_
      refine .skip rfl ?_
      refine .skip rfl ?_
      refine .skip rfl ?_
      refine .skip rfl ?_
      refine .skip rfl ?_
      refine .skip rfl ?_
      refine .skip rfl ?_
      refine .op rfl (q_pick rfl rfl rfl rfl) ?_
      refine .op rfl (q_move rfl) ?_
      refine .skip rfl ?_
      refine .skip rfl ?_
      refine .skip rfl ?_
      refine .skip rfl ?_
      refine .skip rfl ?_
      refine .skip rfl ?_
      refine .skip rfl ?_
      refine .skip rfl ?_
      refine .skip rfl ?_
      refine .skip rfl ?_
      refine .skip rfl ?_
      refine .skip rfl ?_
      refine .skip rfl ?_
      refine .skip rfl ?_
      refine .op rfl (q_pick rfl rfl rfl rfl) ?_
      refine .nil (fun hG => ?_)
      refine AOps.nil ?_
      exact ARun.ag (run (false) (rfl))
    rw [decide_eq_false g, Bool.false_and] at run
    refine ARun.drawnP 50 (fun _ => False) mixC rfl rfl (by kernel_rfl) (fun _ _ h => h.elim) ?_
    refine .op rfl (q_move rfl) ?_
    refine .op rfl (q_nil rfl rfl) ?_
    refine .op rfl (q_fldP rfl rfl rfl (by decide)) ?_
    refine .op rfl (Zaa rfl rfl rfl hk1 rfl) ?_
    refine .op rfl (q_move rfl) ?_
    refine .op rfl (q_nil rfl rfl) ?_
    refine .op rfl (q_fldP rfl rfl rfl (by decide)) ?_
    refine .op rfl (Zaa rfl rfl rfl hk1 rfl) ?_
    refine .op rfl (Zae rfl rfl) ?_
    refine .op rfl (OpQ.cast (d' := .bool false) (q_int rfl rfl rfl) (congrArg D.bool (decide_eq_false (by omega)))) ?_
    refine .op rfl (q_move rfl) ?_
    refine .skip rfl ?_
    refine .skip rfl ?_
    refine .skip rfl ?_
    refine .skip rfl ?_
    refine .skip rfl ?_
    refine .skip rfl ?_
    refine .skip rfl ?_
    refine .skip rfl ?_
    refine .skip rfl ?_
    refine .skip rfl ?_
    refine .op rfl (q_pick rfl rfl rfl rfl) ?_
    refine .op rfl (q_move rfl) ?_
    refine .skip rfl ?_
    refine .skip rfl ?_
    refine .skip rfl ?_
    refine .skip rfl ?_
    refine .skip rfl ?_
    refine .skip rfl ?_
    refine .skip rfl ?_
    refine .skip rfl ?_
    refine .skip rfl ?_
    refine .skip rfl ?_
    refine .op rfl (q_pick rfl rfl rfl rfl) ?_
    refine .op rfl (q_move rfl) ?_
    refine .skip rfl ?_
    refine .skip rfl ?_
    refine .skip rfl ?_
    refine .skip rfl ?_
    refine .skip rfl ?_
    refine .skip rfl ?_
    refine .skip rfl ?_
    refine .skip rfl ?_
    refine .skip rfl ?_
    refine .skip rfl ?_
    refine .skip rfl ?_
    refine .skip rfl ?_
    refine .skip rfl ?_
    refine .skip rfl ?_
    refine .op rfl (q_pick rfl rfl rfl rfl) ?_
    refine .nil (fun hG => ?_)
    refine AOps.nil ?_
    exact ARun.ag (run (false) (rfl))
  rintro b hj
  try dsimp only at hj ⊢
  subst hj
  refine ARun.cond rfl (fun y => ?_) (fun y => ?_)
  · skip
    have y2 := y
    rw [Bool.and_eq_true, decide_eq_true_eq] at y2
    obtain ⟨g, hp⟩ := y2
    rw [dgL_yes g hp] at i3
    have c1 : 48 ≤ (sby s).getD i 0 := by unfold sdp at hp; simp only [Bool.and_eq_true, decide_eq_true_eq] at hp; exact hp.1.1
    have c2 : (sby s).getD i 0 ≤ 57 := by unfold sdp at hp; simp only [Bool.and_eq_true, decide_eq_true_eq] at hp; exact hp.1.2
    clear hp y
    refine ARun.skip (ARun.block (ARun.seq ?_))
    refine ARun.drawnP 15 (fun _ => False) mixC rfl rfl (by kernel_rfl) (fun _ _ h => h.elim) ?_
    refine .op rfl (q_move rfl) ?_
    refine .op rfl (OpQ.cast (d' := .int .i64 ((10 * n : Nat) : Int)) (q_int rfl rfl rfl) (congrArg (D.int .i64) (by show IntKind.i64.wrap _ = _; rw [IntWalk.i64_in _ (by omega)]; omega))) ?_
    refine .op rfl (q_move rfl) ?_
    refine .op rfl (q_nil rfl rfl) ?_
    refine .op rfl (q_fldP rfl rfl rfl (by decide)) ?_
    refine .op rfl (Zaa rfl rfl rfl hk1 rfl) ?_
    refine .op rfl (q_move rfl) ?_
    refine .op rfl (q_nil rfl rfl) ?_
    refine .op rfl (q_fldP rfl rfl rfl (by decide)) ?_
    refine .op rfl (Zaa rfl rfl rfl hk1 rfl) ?_
    refine .op rfl (Zaq rfl rfl rfl (by omega) (by omega) (sby_get _)) ?_
    refine .op rfl (OpQ.cast (d' := .int .u8 (((sby s).getD i 0 - 48 : Nat) : Int)) (q_int rfl rfl rfl) (congrArg (D.int .u8) (by show IntKind.u8.wrap _ = _; rw [IntKind.wrap_u8]; omega))) ?_
    refine .op rfl (q_conv rfl rfl rfl (show _ = (((sby s).getD i 0 - 48 : Nat) : Int) by rw [IntWalk.i64_in _ (by omega)])) ?_
    refine .op rfl (OpQ.cast (d' := .int .i64 ((10 * n + ((sby s).getD i 0 - 48) : Nat) : Int)) (q_int rfl rfl rfl) (congrArg (D.int .i64) (by show IntKind.i64.wrap _ = _; rw [IntWalk.i64_in _ (by omega)]; omega))) ?_
    refine .op rfl (q_minR rfl rfl (show _ = ((min 100000 (10 * n + ((sby s).getD i 0 - 48)) : Nat) : Int) by omega)) ?_
    refine .nil (fun hG => ?_)
    refine zza ?_; refine AOps.nil (ARun.region ?_); refine zzm ?_
    refine y_op rfl (q_nil rfl rfl) ?_
    refine y_op rfl (q_fldP rfl rfl rfl (by decide)) ?_
    refine y_op rfl (Zaa rfl rfl rfl hk1 rfl) ?_
    refine y_op rfl (OpQ.cast (d' := .int .i64 ((i + 1 : Nat) : Int)) (q_int rfl rfl rfl) (congrArg (D.int .i64) (by show IntKind.i64.wrap _ = _; rw [IntWalk.i64_in _ (by omega)]; omega))) ?_
    refine y_op rfl (q_nil rfl rfl) ?_
    refine y_op rfl (q_fldP rfl rfl rfl (by decide)) ?_
    refine y_new rfl (Zac rfl rfl rfl rfl hk1 rfl (Nat.le_of_ble_eq_true rfl) rfl) ?_
    refine AOps.nil (ARun.inBlock ?_)
    refine ARun.again (ih ((min 100000 (10 * n + ((sby s).getD i 0 - 48)), i + 1)) ?_ ?_) ?_ ?_
    · exact ⟨g, Nat.min_le_left _ _, i3⟩
    · (dsimp only; omega)
    · (repeat' first | exact envLe_nil | apply envLe_any | apply envLe_same)
    (rw [List.set_set]; rfl)
  have y2 : ¬ (i < s.size ∧ sdp n ((sby s).getD i 0) = true) := fun ⟨h1, h2⟩ => by rw [decide_eq_true h1, h2] at y; cases y
  rw [dgL_no y2] at i3
  subst i3
  refine ARun.exit rfl ?_
  refine ARun.seq (ARun.region ?_); refine zzm ?_; refine zza ?_; refine AOps.nil ?_
  refine ARun.ret ?_
  exact ⟨_, _, _, .tmp rfl .nil, .cons (.same _) .nil, rfl, by show H.set k _ = H.set k _; rw [← hl, drop_back (by omega)]⟩
end Go.V
/- A CALL THAT LEAVES THE HEAP AS IT IS; an element of an array that is a value. -/
namespace Go.V
open Go.RowKit Go.Proofs
section
variable {C : Ctx} {env : List D} {H : Heap} {dst : Option Tmp} {ty : TypeId} {pos : String} {aft : Array Edge} {gd : Option (Nat × Bool)} {x y : Operand} {T e : TypeId} {d : D}
theorem Zdi {f : FuncId} {caps ds ds' : List D} {args : List Operand} {tys : Array TypeId} (hx : evO C env x = some (.clos f caps)) (ha : evOs C env args = some ds) (hds : ds ++ caps = ds') (hc : HC C f H ds' (fun o H' => o = .ret d ∧ H' = H)) :
    OpQ C ⟨dst, .call ⟨.value x, args.toArray, tys⟩, ty, pos, aft, gd⟩ env H d := by
  subst hds
  refine OpH.mono ?_ ?_ (o_call (ids := []) hx ha (FzL.sames _) hc)
  · rintro d' H' ⟨h1, h2⟩; injection h1 with h1; exact ⟨h1, h2⟩
  rintro d' H' ⟨h1, _⟩; cases h1
theorem Zga {n S b j : Nat} {ik : IntKind} {i : Int} {zv : Value} {te : TE} {cs : List D} (hx : evO C env x = some (.agg cs)) (hy : evO C env y = some (.int ik i)) (ht : C.ty T = some ⟨.array n e, S, b, zv⟩) (hee : C.ty e = some te) (ha : aggK te.k = false) (h0 : 0 ≤ i) (h1 : i < n) (hj : i.toNat * te.size = j) (hd : cs[j]? = some d) : OpQ C ⟨dst, .index T x y, ty, pos, aft, gd⟩ env H d :=
  OpQ.of_runS fun L0 w μ a hs he => by
    have ex := he _ _ hx
    have ey := he _ _ hy
    simp only [VR] at ex ey
    obtain ⟨vs, ex, hv⟩ := ex
    obtain ⟨ti, ta⟩ := ty_tic hee
    have ha' := ta.trans ha
    have ti' : TI C.P e (tkDesc C.P e) te.size te.bytes te.zero := ti
    have hun : C.P.underlying T = some (.array n e) := (C.ok T _ ht).2
    obtain ⟨v, hv1, hv2⟩ := VRs_get hv hd
    refine ⟨v, ?_, hv2⟩
    simp only [execOp, ex, ey]
    unfold Instr.index
    simp [asIntOf, run_underlying hun, h0, h1, part, ti'.run_agg, ha', ti'.run_size, hj, hv1]
end
end Go.V
set_option maxHeartbeats 8000000
set_option maxRecDepth 100000
set_option synthInstance.maxSize 100000
set_option synthInstance.maxHeartbeats 2000000
namespace Go.V
open Go.RowKit Go.Proofs
theorem hdIs_len {r : List Nat} {c : Nat} (h : hdIs r c = true) : 0 < r.length := by
  cases r with
  | nil => cases h
  | cons a r => exact Nat.succ_pos _
theorem drop_drop1 (l : List Nat) (i : Nat) : (l.drop i).drop 1 = l.drop (i + 1) := List.drop_drop ..
theorem ZfD (H : Heap) (k : Nat) (s : ByteArray) (i n : Nat) (w pl : Bool) (hk : H[k]? = some (rdS s i n w pl)) (hi : i ≤ s.size) (hmax : s.size ≤ 1099511627776) : HC C ZbF H [.ptr k 0] (fun x H' => x = .ret (.tup [.int .i64 (((argL ((sby s).drop i)).1 : Nat) : Int), .bool (argL ((sby s).drop i)).2.1]) ∧ H' = H.set k (rdS s (s.size - (argL ((sby s).drop i)).2.2.2.length) n (w || (argL ((sby s).drop i)).2.2.1) pl)) := by
  obtain ⟨r, hr⟩ : ∃ r, r = (sby s).drop i := ⟨_, rfl⟩
  have hl := sby_len s
  have hrl : r.length = s.size - i := by rw [hr, List.length_drop, hl]
  obtain ⟨R, hR⟩ : ∃ R, R = argL r := ⟨_, rfl⟩
  have hN := Zfl H k s i n w pl hk hi hmax
  have hI := hc_is H k s i n 42 w pl hk hmax
  have hdl := dgL_le 0 r (by decide)
  have hsuf : (sby s).drop (s.size - (dgL 0 r).2.length) = (dgL 0 r).2 := by
    obtain ⟨u, hu⟩ := dgL_suf 0 r
    have := (suf_drop (by omega) (hr.symm.trans hu)).1
    rwa [hl] at this
  rw [← hr] at hN hI ⊢
  rw [← hR]
  unfold argL at hR
  generalize dgL 0 r = d at *
  refine HC.run ZaO ZbC rfl ZbD (rs := [.tmp 2, .tmp 3]) (by rw [ZbE]) (by simp only [List.length_cons, List.length_nil, Nat.reduceAdd, Nat.reduceSub, List.replicate_succ, List.replicate_zero, List.cons_append, List.nil_append]; exact rfl) ?_
  refine ARun.seq (ARun.region ?_); refine zza ?_; refine zza ?_; refine AOps.nil (ARun.seq (ARun.seq (ARun.region ?_))); refine zzm ?_
  refine y_op rfl (q_nil rfl rfl) ?_
  refine y_op rfl (q_fldP rfl rfl rfl (by decide)) ?_
  refine y_op rfl (Zdi rfl rfl rfl hI) ?_
  refine AOps.nil ?_
  refine ARun.cond rfl (fun a => ?_) (fun a => ?_)
  · skip
    have hp := hdIs_len a
    rw [a, cond_true] at hR
    subst hR
    refine ARun.seq (ARun.region ?_); refine zzm ?_
    refine y_op rfl (q_nil rfl rfl) ?_
    refine y_op rfl (q_fldP rfl rfl rfl (by decide)) ?_
    refine y_op rfl (q_fldP rfl rfl rfl (by decide)) ?_
    refine y_op rfl (Zaa rfl rfl rfl hk rfl) ?_
    refine y_op rfl (OpQ.cast (d' := .int .i64 ((i + 1 : Nat) : Int)) (q_int rfl rfl rfl) (congrArg (D.int .i64) (by show IntKind.i64.wrap _ = _; rw [IntWalk.i64_in _ (by omega)]; omega))) ?_
    refine y_op rfl (q_nil rfl rfl) ?_
    refine y_op rfl (q_fldP rfl rfl rfl (by decide)) ?_
    refine y_op rfl (q_fldP rfl rfl rfl (by decide)) ?_
    refine y_new rfl (Zac rfl rfl rfl rfl hk rfl (Nat.le_of_ble_eq_true rfl) rfl) ?_
    refine AOps.nil (ARun.seq (ARun.region ?_)); refine zza ?_; refine zza ?_; refine AOps.nil ?_
    refine ARun.ret ?_
    exact ⟨_, _, _, .tmp rfl (.tmp rfl .nil), .cons (.same _) (.cons (.same _) .nil), rfl, by show H.set k (rdS _ _ _ _ _) = H.set k (rdS _ _ _ _ _); rw [List.length_drop, Bool.or_false, show s.size - (r.length - 1) = i + 1 by omega]⟩
  rw [a, cond_false] at hR
  refine ARun.skip (ARun.seq (ARun.region ?_)); refine zzm ?_
  refine y_op rfl (q_nil rfl rfl) ?_
  refine y_op rfl (q_fldP rfl rfl rfl (by decide)) ?_
  refine y_op rfl (q_fldP rfl rfl rfl (by decide)) ?_
  refine y_op rfl (Zaa rfl rfl rfl hk rfl) ?_
  refine zza ?_; refine AOps.nil (ARun.seq (ARun.seq (ARun.region ?_))); refine zzm ?_
  refine y_op rfl (q_nil rfl rfl) ?_
  refine y_op rfl (q_fldP rfl rfl rfl (by decide)) ?_
  refine Zad rfl rfl rfl rfl hN ?_ (by rintro _ _ ⟨h, _⟩; cases h)
  rintro q1 H1 ⟨e1, rfl⟩
  injection e1 with e1
  subst e1
  have hk1 : (H.set k (rdS s (s.size - d.2.length) n w pl))[k]? = some (rdS s (s.size - d.2.length) n w pl) := heap_set_get hk
  have hI2 := hc_is _ k s (s.size - d.2.length) n 36 w pl hk1 hmax
  rw [hsuf] at hI2
  refine zza ?_; refine AOps.nil (ARun.seq (ARun.region ?_)); refine zzm ?_
  refine y_op rfl (OpQ.cast (d' := .bool (decide (0 < d.1))) (q_int rfl rfl rfl) (congrArg D.bool (decide_eq_decide.2 (by omega)))) ?_
  refine zzm ?_
  apply AOps.andJ 29 (fun sj1 => [(29, .any), (30, .any), (31, .any), (32, .any), (33, .any), (34, .bool sj1)]) rfl
  · intro hj1 run1
    try replace hj1 := of_decide_eq_true hj1
    refine zzm ?_
    refine y_op rfl (q_nil rfl rfl) ?_
    refine y_op rfl (q_fldP rfl rfl rfl (by decide)) ?_
    refine y_op rfl (Zdi rfl rfl rfl hI2) ?_
    refine zzp ?_
    exact AOps.ag run1
  · intro hj1 run1
    try replace hj1 := of_decide_eq_false hj1
    refine zzk ?_; refine zzk ?_; refine zzk ?_; refine zzk ?_; refine zzp ?_
    exact AOps.ag run1
  refine AOps.nil ?_
  refine ARun.cond rfl (fun b => ?_) (fun b => ?_)
  · skip
    have hp := hdIs_len (Bool.and_eq_true _ _ ▸ b : _ ∧ _).2
    rw [b, cond_true] at hR
    subst hR
    refine ARun.seq (ARun.region ?_); refine zzm ?_
    refine y_op rfl (q_nil rfl rfl) ?_
    refine y_op rfl (q_fldP rfl rfl rfl (by decide)) ?_
    refine y_op rfl (q_fldP rfl rfl rfl (by decide)) ?_
    refine y_op rfl (Zaa rfl rfl rfl hk1 rfl) ?_
    refine y_op rfl (OpQ.cast (d' := .int .i64 ((s.size - d.2.length + 1 : Nat) : Int)) (q_int rfl rfl rfl) (congrArg (D.int .i64) (by show IntKind.i64.wrap _ = _; rw [IntWalk.i64_in _ (by omega)]; omega))) ?_
    refine y_op rfl (q_nil rfl rfl) ?_
    refine y_op rfl (q_fldP rfl rfl rfl (by decide)) ?_
    refine y_op rfl (q_fldP rfl rfl rfl (by decide)) ?_
    refine y_new rfl (Zac rfl rfl rfl rfl hk1 rfl (Nat.le_of_ble_eq_true rfl) rfl) ?_
    refine AOps.nil (ARun.seq (ARun.region ?_)); refine zzm ?_
    refine y_op rfl (q_nil rfl rfl) ?_
    refine y_op rfl (q_fldP rfl rfl rfl (by decide)) ?_
    refine y_new rfl (Zac rfl rfl rfl rfl (heap_set_get hk1) rfl (Nat.le_of_ble_eq_true rfl) rfl) ?_
    refine AOps.nil (ARun.seq (ARun.region ?_)); refine zzm ?_; refine zza ?_; refine zza ?_; refine AOps.nil ?_
    refine ARun.ret ?_
    exact ⟨_, _, _, .tmp rfl (.tmp rfl .nil), .cons (.same _) (.cons (.same _) .nil), rfl, by show List.set _ k (rdS _ _ _ _ _) = H.set k (rdS _ _ _ _ _); rw [List.set_set, List.set_set, List.length_drop, Bool.or_true, show s.size - (d.2.length - 1) = s.size - d.2.length + 1 by omega]⟩
  rw [b, cond_false] at hR
  subst hR
  refine ARun.skip (ARun.seq (ARun.region ?_)); refine zzm ?_; refine zzm ?_
  refine y_op rfl (q_nil rfl rfl) ?_
  refine y_op rfl (q_fldP rfl rfl rfl (by decide)) ?_
  refine y_op rfl (q_fldP rfl rfl rfl (by decide)) ?_
  refine y_new rfl (Zac rfl rfl rfl rfl hk1 rfl (Nat.le_of_ble_eq_true rfl) rfl) ?_
  refine AOps.nil (ARun.seq (ARun.region ?_)); refine zza ?_; refine zza ?_; refine AOps.nil ?_
  refine ARun.ret ?_
  exact ⟨_, _, _, .tmp rfl (.tmp rfl .nil), .cons (.same _) (.cons (.same _) .nil), rfl, by show List.set _ k (rdS _ _ _ _ _) = H.set k (rdS _ _ _ _ _); rw [List.set_set, Bool.or_false, show s.size - r.length = i by omega]⟩
theorem isPre_lens {s : ByteArray} {i k : Nat} (hk : k < 12) (hi : i ≤ s.size) : isPre (s.extract i s.size) (bytesOf (lenAt k)) = decide (((sby s).drop i).take (lenAt k).length = lenAt k) := by
  unfold isPre
  rw [bytesOf_size, sby_lens hk]
  have : sby (s.extract i s.size) = (sby s).drop i := by
    have h := sby_ext2 s i (s.size - i)
    rw [show i + (s.size - i) = s.size by omega] at h
    rw [h, List.take_of_length_le (by rw [List.length_drop, sby_len]; exact Nat.le_refl _)]
  rw [this]
theorem Zgb (H : Heap) (k : Nat) (s : ByteArray) (i n : Nat) (w pl : Bool) (hk : H[k]? = some (rdS s i n w pl)) (hi : i ≤ s.size) (hmax : s.size ≤ 2000) : HC Cg Zcj H [.ptr k 0] (fun x H' => x = .ret (.int .i64 ((modL ((sby s).drop i) : Nat) : Int)) ∧ H' = H.set k (rdS s (i + (lenAt (modL ((sby s).drop i))).length) n w pl)) := by
  obtain ⟨r, hr⟩ : ∃ r, r = (sby s).drop i := ⟨_, rfl⟩
  rw [← hr]
  obtain ⟨R, hR⟩ : ∃ R, R = modL r := ⟨_, rfl⟩
  rw [← hR]
  unfold modL at hR
  refine HC.run ZaV ZbW rfl ZbX (rs := [.tmp 2]) (by rw [ZbY]) (by simp only [List.length_cons, List.length_nil, Nat.reduceAdd, Nat.reduceSub, List.replicate_succ, List.replicate_zero, List.cons_append, List.nil_append]; exact rfl) ?_
  refine ARun.seq (ARun.region ?_); refine zza ?_; refine AOps.nil (ARun.seq (ARun.region ?_)); refine zza ?_; refine AOps.nil (ARun.seq (ARun.seq (ARun.region ?_))); refine zzL ?_; refine zzm ?_; refine AOps.nil (ARun.block ?_)
  refine ARun.loopI (S := Nat × Nat) (fun σ : Nat × Nat => [(3, .int .i64 (σ.2 : Int)), (4, .any), (5, .any), (7, .int .i64 (σ.1 : Int)), (8, .any), (9, .any), (10, .any), (11, .any), (12, .any), (13, .any), (14, .any), (15, .any), (16, .any), (17, .any), (18, .any), (19, .any), (20, .any), (21, .any), (22, .any), (23, .any), (24, .any), (25, .any), (26, .any), (27, .any), (28, .any), (29, .any), (30, .any), (31, .any), (32, .any), (33, .any), (34, .any)]) (fun σ : Nat × Nat => H) (fun σ : Nat × Nat => σ.1 ≤ 12 ∧ σ.2 < 12 ∧ R = mF r (12 - σ.1) σ.1 σ.2) (fun σ : Nat × Nat => 12 - σ.1) ((0, 0)) ?_ ?_ ?_ ?_
  · exact ⟨Nat.zero_le _, by decide, hR⟩
  · (repeat' first | exact envLe_nil | apply envLe_any | apply envLe_same)
  · rfl
  rintro ⟨j, b⟩ hinv ih
  dsimp only at hinv ih ⊢
  obtain ⟨j1, j2, j3⟩ := hinv
  refine ARun.seq (ARun.region ?_); refine zzi ?_; refine AOps.nil (ARun.seq ?_)
  refine ARun.ite rfl (fun g => ?_) (fun g => ?_)
  · skip
    have g : j < 12 := by omega
    have hgj := lensA_get j g
    have hgb := lensA_get b j2
    have hpre := isPre_lens (s := s) g hi
    rw [← hr] at hpre
    have hj2 : (lenAt j).length ≤ 2 := lensN_len j
    have hb2 : (lenAt b).length ≤ 2 := lensN_len b
    rw [show 12 - j = (12 - (j + 1)) + 1 by omega, mF] at j3
    have eJ : lensN.getD j [] = lenAt j := rfl
    have eB : lensN.getD b [] = lenAt b := rfl
    rw [eJ] at hgj
    rw [eB] at hgb
    obtain ⟨K, hK⟩ : ∃ K, K = lenAt j := ⟨_, rfl⟩
    obtain ⟨M, hM⟩ : ∃ M, M = lenAt b := ⟨_, rfl⟩
    rw [← hK] at hgj hj2 j3 hpre
    rw [← hM] at hgb hb2 j3
    clear eJ eB hK hM
    refine ARun.skip (ARun.seq (ARun.block (ARun.seq (ARun.region ?_)))); refine zzm ?_
    refine y_op rfl (Zga (j := j) rfl rfl rfl rfl rfl (by omega) (by omega) (by rw [Int.toNat_natCast]; exact Nat.mul_one _) (show lensA[j]? = _ by rw [List.getElem?_drop, Nat.mul_one, Nat.add_zero] at hgj; exact hgj)) ?_
    refine zza ?_; refine zza ?_; refine AOps.nil (ARun.seq ?_)
    refine ARun.joinH (S := Bool) (fun q : Bool => [(11, .any), (12, .any), (13, .any), (14, .any), (15, .any), (16, .any), (17, .any), (18, .any), (19, .any), (20, .any), (21, .any), (22, .any), (23, .any), (24, .any), (25, .any), (26, .any), (27, .any), (28, .any), (29, .any), (30, .any), (31, .any), (32, .bool q)]) (fun q : Bool => H) (fun q : Bool => q = decide (M.length < K.length ∧ r.take K.length = K)) (fun run => ?_) ?_
    · skip
      by_cases c1 : M.length < K.length
      · rw [show decide (M.length < K.length ∧ r.take K.length = K) = decide (r.take K.length = K) from decide_eq_decide.2 ⟨fun h => h.2, fun h => ⟨c1, h⟩⟩] at run
        refine ARun.drawnP 22 (fun _ => False) mixC rfl rfl (by kernel_rfl) (fun _ _ h => h.elim) ?_
        refine .op rfl (q_move rfl) ?_
        refine .op rfl (Zae rfl rfl) ?_
        refine .op rfl (q_move rfl) ?_
        refine .op rfl (Zb0 rfl rfl rfl rfl (by omega) (by omega) rfl) ?_
        refine .op rfl (q_load rfl rfl rfl hgb) ?_
        refine .op rfl (Zae rfl rfl) ?_
        refine .op rfl (OpQ.cast (d' := .bool true) (q_int rfl rfl rfl) (congrArg D.bool (decide_eq_true (by rw [bytesOf_size, bytesOf_size]; omega)))) ?_
        refine .op rfl (q_move rfl) ?_
        refine .op rfl (q_move rfl) ?_
        refine .op rfl (q_nil rfl rfl) ?_
        refine .op rfl (q_fldP rfl rfl rfl (by decide)) ?_
        refine .op rfl (q_fldP rfl rfl rfl (by decide)) ?_
        refine .op rfl (Zaa rfl rfl rfl hk rfl) ?_
        refine .op rfl (q_move rfl) ?_
        refine .op rfl (q_nil rfl rfl) ?_
        refine .op rfl (q_fldP rfl rfl rfl (by decide)) ?_
        refine .op rfl (q_fldP rfl rfl rfl (by decide)) ?_
        refine .op rfl (Zaa rfl rfl rfl hk rfl) ?_
        refine .op rfl (Zbg (lo := i) (hi := s.size) rfl rfl (bnd_nat (n := i) rfl rfl) rfl hi (Nat.le_refl _)) ?_
        refine .op rfl (q_move rfl) ?_
        refine .op rfl (OpQ.cast (d' := .bool (decide (r.take K.length = K))) (q_call rfl rfl (PC.g (Zfh (s.extract i s.size) (bytesOf K) (by rw [ByteArray.size_extract]; omega) (by rw [bytesOf_size]; omega)))) (congrArg D.bool hpre)) ?_
        refine .op rfl (q_pick rfl rfl rfl rfl) ?_
        refine .nil (fun hG => ?_)
        refine AOps.nil ?_
        exact ARun.ag (run (decide (r.take K.length = K)) (rfl))
      rw [show decide (M.length < K.length ∧ r.take K.length = K) = false from decide_eq_false fun h => c1 h.1] at run
      refine ARun.drawnP 22 (fun _ => False) mixC rfl rfl (by kernel_rfl) (fun _ _ h => h.elim) ?_
      refine .op rfl (q_move rfl) ?_
      refine .op rfl (Zae rfl rfl) ?_
      refine .op rfl (q_move rfl) ?_
      refine .op rfl (Zb0 rfl rfl rfl rfl (by omega) (by omega) rfl) ?_
      refine .op rfl (q_load rfl rfl rfl hgb) ?_
      refine .op rfl (Zae rfl rfl) ?_
      refine .op rfl (OpQ.cast (d' := .bool false) (q_int rfl rfl rfl) (congrArg D.bool (decide_eq_false (by rw [bytesOf_size, bytesOf_size]; omega)))) ?_
      refine .op rfl (q_move rfl) ?_
      refine .skip rfl ?_
      refine .skip rfl ?_
      refine .skip rfl ?_
      refine .skip rfl ?_
      refine .skip rfl ?_
      refine .skip rfl ?_
      refine .skip rfl ?_
      refine .skip rfl ?_
      refine .skip rfl ?_
      refine .skip rfl ?_
      refine .skip rfl ?_
      refine .skip rfl ?_
      refine .skip rfl ?_
      refine .op rfl (q_pick rfl rfl rfl rfl) ?_
      refine .nil (fun hG => ?_)
      refine AOps.nil ?_
      exact ARun.ag (run (false) (rfl))
    rintro q hj
    try dsimp only at hj ⊢
    subst hj
    refine ARun.ite rfl (fun y => ?_) (fun y => ?_)
    · skip
      rw [if_pos y] at j3
      refine ARun.region ?_; refine zzm ?_; refine zza ?_; refine AOps.nil (ARun.inBlock (ARun.region ?_))
      refine y_op rfl (OpQ.cast (d' := .int .i64 ((j + 1 : Nat) : Int)) (q_int rfl rfl rfl) (congrArg (D.int .i64) (by show IntKind.i64.wrap _ = _; rw [IntWalk.i64_in _ (by omega)]; omega))) ?_
      refine zzm ?_; refine AOps.nil ?_
      refine ARun.again (ih ((j + 1, j)) ?_ ?_) ?_ ?_
      · exact ⟨g, g, j3⟩
      · (dsimp only; omega)
      · (repeat' first | exact envLe_nil | apply envLe_any | apply envLe_same)
      rfl
    rw [if_neg y] at j3
    refine ARun.skip (ARun.inBlock (ARun.region ?_))
    refine y_op rfl (OpQ.cast (d' := .int .i64 ((j + 1 : Nat) : Int)) (q_int rfl rfl rfl) (congrArg (D.int .i64) (by show IntKind.i64.wrap _ = _; rw [IntWalk.i64_in _ (by omega)]; omega))) ?_
    refine zzm ?_; refine AOps.nil ?_
    refine ARun.again (ih ((j + 1, b)) ?_ ?_) ?_ ?_
    · exact ⟨g, j2, j3⟩
    · (dsimp only; omega)
    · (repeat' first | exact envLe_nil | apply envLe_any | apply envLe_same)
    rfl
  obtain rfl : j = 12 := by omega
  have j3 : R = b := j3
  subst j3
  have hgb := lensA_get R j2
  have hb2 : (lenAt R).length ≤ 2 := lensN_len R
  rw [show lensN.getD R [] = lenAt R from rfl] at hgb
  refine ARun.exit rfl ?_
  refine ARun.seq ?_
  refine ARun.drawnP 10 (fun _ => False) mixC rfl rfl (by kernel_rfl) (fun _ _ h => h.elim) ?_
  refine .op rfl (q_move rfl) ?_
  refine .op rfl (q_nil rfl rfl) ?_
  refine .op rfl (q_fldP rfl rfl rfl (by decide)) ?_
  refine .op rfl (q_fldP rfl rfl rfl (by decide)) ?_
  refine .op rfl (Zaa rfl rfl rfl hk rfl) ?_
  refine .op rfl (q_move rfl) ?_
  refine .op rfl (Zb0 rfl rfl rfl rfl (by omega) (by omega) rfl) ?_
  refine .op rfl (q_load rfl rfl rfl hgb) ?_
  refine .op rfl (Zae rfl rfl) ?_
  refine .op rfl (OpQ.cast (d' := .int .i64 ((i + (lenAt R).length : Nat) : Int)) (q_int rfl rfl rfl) (congrArg (D.int .i64) (by show IntKind.i64.wrap _ = _; rw [bytesOf_size, IntWalk.i64_in _ (by omega)]; omega))) ?_
  refine .nil (fun hG => ?_)
  refine y_op rfl (q_nil rfl rfl) ?_
  refine y_op rfl (q_fldP rfl rfl rfl (by decide)) ?_
  refine y_op rfl (q_fldP rfl rfl rfl (by decide)) ?_
  refine y_new rfl (Zac rfl rfl rfl rfl hk rfl (Nat.le_of_ble_eq_true rfl) rfl) ?_
  refine AOps.nil (ARun.seq (ARun.region ?_)); refine zzm ?_; refine zza ?_; refine AOps.nil ?_
  refine ARun.ret ?_
  exact ⟨_, _, _, .tmp rfl .nil, .cons (.same _) .nil, rfl, rfl⟩
end Go.V
set_option maxHeartbeats 8000000
set_option maxRecDepth 100000
set_option synthInstance.maxSize 100000
set_option synthInstance.maxHeartbeats 2000000
namespace Go.V
open Go.RowKit Go.Proofs
def Kp (H H' : Heap) (k : Nat) : Prop := H.length ≤ H'.length ∧ ∀ j, j < H.length → j ≠ k → H'[j]? = H[j]?
theorem Kp.refl (H : Heap) (k : Nat) : Kp H H k := ⟨Nat.le_refl _, fun _ _ _ => rfl⟩
theorem Kp.trans {A B C : Heap} {k : Nat} (h : Kp A B k) (g : Kp B C k) : Kp A C k := ⟨Nat.le_trans h.1 g.1, fun j h1 h2 => (g.2 j (Nat.lt_of_lt_of_le h1 h.1) h2).trans (h.2 j h1 h2)⟩
theorem Kp.app {H M : Heap} {k : Nat} : Kp H (H ++ M) k := ⟨by simp, fun j h1 _ => List.getElem?_append_left h1⟩
theorem Kp.set {H : Heap} {k : Nat} {x : Option AObj} : Kp H (H.set k x) k := ⟨by simp, fun j _ h2 => List.getElem?_set_ne (fun e => h2 e.symm)⟩
theorem Kp.put {H H' : Heap} {k i : Nat} {x : Option AObj} (h : Kp H H' k) (hi : H.length ≤ i) : Kp H (H'.set i x) k := ⟨by rw [List.length_set]; exact h.1, fun j h1 h2 => by rw [List.getElem?_set_ne (by omega)]; exact h.2 j h1 h2⟩
theorem hc_bad (H : Heap) (i : Nat) : HC C ZeP H [.int .i64 (i : Int)] (fun x H' => x = .pan (wrongP 6 i) ∧ H' = H) := by
  refine HC.run ZcO Zew rfl Zex (rs := []) (by rw [Zey]) (by simp only [List.length_cons, List.length_nil, Nat.reduceAdd, Nat.reduceSub, List.replicate_succ, List.replicate_zero, List.cons_append, List.nil_append]; exact rfl) ?_
  refine ARun.region ?_; refine zzm ?_
  refine y_op rfl (Za8 rfl rfl rfl rfl rfl) ?_
  refine y_op rfl (Zfb rfl rfl rfl) ?_
  exact ZfY rfl rfl ⟨_, _, .same _, rfl, rfl⟩
theorem runL_ext {s : ByteArray} {fn : Nat → Bool} {i j : Nat} (hi : i ≤ j) (hj : j ≤ s.size) (h : (runL fn ((sby s).drop i)).2 = (sby s).drop j) : s.extract i j = bytesOf (runL fn ((sby s).drop i)).1 := by
  have ha := runL_app fn ((sby s).drop i)
  have hl := sby_len s
  have e : (runL fn ((sby s).drop i)).1 = ((sby s).drop i).take (j - i) := by
    have h2 := congrArg List.length ha
    rw [h, List.length_append, List.length_drop, List.length_drop, hl] at h2
    conv => rhs; rw [← ha]
    rw [List.take_append_of_le_length (by omega), List.take_of_length_le (by omega)]
  rw [e, ← sby_ext2 s i (j - i), show i + (j - i) = j by omega, bytesOf_sby]
theorem runL_at {s : ByteArray} {fn : Nat → Bool} {j : Nat} (h : j < s.size) : runL fn ((sby s).drop j) = bif fn ((sby s).getD j 0) then ((sby s).getD j 0 :: (runL fn ((sby s).drop (j + 1))).1, (runL fn ((sby s).drop (j + 1))).2) else ([], (sby s).drop j) := by
  conv => lhs; rw [drop_getD (sby s) j 0 (by rw [sby_len]; exact h)]
  rw [runL, ← drop_getD (sby s) j 0 (by rw [sby_len]; exact h)]
theorem hc_run (H : Heap) (k : Nat) (s : ByteArray) (i n : Nat) (w pl : Bool) (hk : H[k]? = some (rdS s i n w pl)) (hi : i ≤ s.size) (hmax : s.size ≤ 1099511627776) (f : FuncId) (fn : Nat → Bool) (hf : ∀ c : Nat, PC C f [.int .u8 (c : Int)] (fun o => o = .ret (.bool (fn c)))) :
    HC C ZcQ H [.ptr k 0, .clos f []] (fun x H' => x = .ret (.str (bytesOf (runL fn ((sby s).drop i)).1)) ∧ H' = H.set k (rdS s (s.size - (runL fn ((sby s).drop i)).2.length) n w pl)) := by
  have hl := sby_len s
  refine HC.run Zbe ZcG rfl ZcH (rs := [.tmp 4]) (by rw [ZcI]) (by simp only [List.length_cons, List.length_nil, Nat.reduceAdd, Nat.reduceSub, List.replicate_succ, List.replicate_zero, List.cons_append, List.nil_append]; exact rfl) ?_
  refine ARun.seq (ARun.region ?_); refine zza ?_; refine AOps.nil (ARun.seq (ARun.region ?_)); refine zzm ?_
  refine y_op rfl (q_nil rfl rfl) ?_
  refine y_op rfl (q_fldP rfl rfl rfl (by decide)) ?_
  refine y_op rfl (q_fldP rfl rfl rfl (by decide)) ?_
  refine y_op rfl (Zaa rfl rfl rfl hk rfl) ?_
  refine zza ?_; refine AOps.nil (ARun.seq (ARun.block ?_))
  refine ARun.loopI (S := Nat) (fun j : Nat => [(11, .any), (12, .any), (13, .any), (14, .any), (15, .any), (16, .any), (17, .any), (18, .any), (19, .any), (20, .any), (21, .any), (22, .any), (23, .any), (24, .any), (25, .any), (26, .any), (27, .any), (28, .any), (29, .any), (30, .any), (31, .any), (32, .any), (33, .any), (34, .any), (35, .any), (36, .any), (37, .any), (38, .any), (39, .any), (40, .any), (41, .any), (42, .any), (43, .any), (44, .any), (45, .any), (46, .any)]) (fun j : Nat => H.set k (rdS s j n w pl)) (fun j : Nat => i ≤ j ∧ j ≤ s.size ∧ (runL fn ((sby s).drop i)).2 = (runL fn ((sby s).drop j)).2) (fun j : Nat => s.size - j) (i) ?_ ?_ ?_ ?_
  · exact ⟨Nat.le_refl _, hi, rfl⟩
  · (repeat' first | exact envLe_nil | apply envLe_any | apply envLe_same)
  · exact (heap_set_self hk).symm
  rintro j hinv ih
  obtain ⟨j1, j2, j3⟩ := hinv
  have hk1 : (H.set k (rdS s j n w pl))[k]? = some (rdS s j n w pl) := heap_set_get hk
  refine ARun.seq (ARun.seq ?_)
  refine ARun.joinH (S := Bool) (fun b : Bool => [(11, .any), (12, .any), (13, .any), (14, .any), (15, .any), (16, .any), (17, .any), (18, .any), (19, .any), (20, .any), (21, .any), (22, .any), (23, .any), (24, .any), (25, .any), (26, .any), (27, .any), (28, .any), (29, .any), (30, .any), (31, .any), (32, .any), (33, .any), (34, .any), (35, .any), (36, .any), (37, .bool b)]) (fun b : Bool => H.set k (rdS s j n w pl)) (fun b : Bool => b = (decide (j < s.size) && fn ((sby s).getD j 0))) (fun run => ?_) ?_
  · skip
    by_cases g : j < s.size
    · rw [decide_eq_true g, Bool.true_and] at run
      refine ARun.drawnP 27 (fun _ => False) mixC rfl rfl (by kernel_rfl) (fun _ _ h => h.elim) ?_
      refine .op rfl (q_move rfl) ?_
      refine .op rfl (q_nil rfl rfl) ?_
      refine .op rfl (q_fldP rfl rfl rfl (by decide)) ?_
      refine .op rfl (q_fldP rfl rfl rfl (by decide)) ?_
      refine .op rfl (Zaa rfl rfl rfl hk1 rfl) ?_
      refine .op rfl (q_move rfl) ?_
      refine .op rfl (q_nil rfl rfl) ?_
      refine .op rfl (q_fldP rfl rfl rfl (by decide)) ?_
      refine .op rfl (q_fldP rfl rfl rfl (by decide)) ?_
      refine .op rfl (Zaa rfl rfl rfl hk1 rfl) ?_
      refine .op rfl (Zae rfl rfl) ?_
      refine .op rfl (OpQ.cast (d' := .bool true) (q_int rfl rfl rfl) (congrArg D.bool (decide_eq_true (by omega)))) ?_
      refine .op rfl (q_move rfl) ?_
      refine .op rfl (q_move rfl) ?_
      refine .op rfl (q_move rfl) ?_
      refine .op rfl (q_nil rfl rfl) ?_
      refine .op rfl (q_fldP rfl rfl rfl (by decide)) ?_
      refine .op rfl (q_fldP rfl rfl rfl (by decide)) ?_
      refine .op rfl (Zaa rfl rfl rfl hk1 rfl) ?_
      refine .op rfl (q_move rfl) ?_
      refine .op rfl (q_nil rfl rfl) ?_
      refine .op rfl (q_fldP rfl rfl rfl (by decide)) ?_
      refine .op rfl (q_fldP rfl rfl rfl (by decide)) ?_
      refine .op rfl (Zaa rfl rfl rfl hk1 rfl) ?_
      refine .op rfl (Zaq rfl rfl rfl (by omega) (by omega) (sby_get _)) ?_
      refine .op rfl (q_call rfl rfl (hf ((sby s).getD j 0))) ?_
      refine .op rfl (q_pick rfl rfl rfl rfl) ?_
      refine .nil (fun hG => ?_)
      refine AOps.nil ?_
      exact ARun.ag (run (fn ((sby s).getD j 0)) (rfl))
    rw [decide_eq_false g, Bool.false_and] at run
    refine ARun.drawnP 27 (fun _ => False) mixC rfl rfl (by kernel_rfl) (fun _ _ h => h.elim) ?_
    refine .op rfl (q_move rfl) ?_
    refine .op rfl (q_nil rfl rfl) ?_
    refine .op rfl (q_fldP rfl rfl rfl (by decide)) ?_
    refine .op rfl (q_fldP rfl rfl rfl (by decide)) ?_
    refine .op rfl (Zaa rfl rfl rfl hk1 rfl) ?_
    refine .op rfl (q_move rfl) ?_
    refine .op rfl (q_nil rfl rfl) ?_
    refine .op rfl (q_fldP rfl rfl rfl (by decide)) ?_
    refine .op rfl (q_fldP rfl rfl rfl (by decide)) ?_
    refine .op rfl (Zaa rfl rfl rfl hk1 rfl) ?_
    refine .op rfl (Zae rfl rfl) ?_
    refine .op rfl (OpQ.cast (d' := .bool false) (q_int rfl rfl rfl) (congrArg D.bool (decide_eq_false (by omega)))) ?_
    refine .op rfl (q_move rfl) ?_
    refine .skip rfl ?_
    refine .skip rfl ?_
    refine .skip rfl ?_
    refine .skip rfl ?_
    refine .skip rfl ?_
    refine .skip rfl ?_
    refine .skip rfl ?_
    refine .skip rfl ?_
    refine .skip rfl ?_
    refine .skip rfl ?_
    refine .skip rfl ?_
    refine .skip rfl ?_
    refine .skip rfl ?_
    refine .op rfl (q_pick rfl rfl rfl rfl) ?_
    refine .nil (fun hG => ?_)
    refine AOps.nil ?_
    exact ARun.ag (run (false) (rfl))
  rintro b hj
  try dsimp only at hj ⊢
  subst hj
  refine ARun.cond rfl (fun y => ?_) (fun y => ?_)
  · skip
    have y2 := y
    rw [Bool.and_eq_true, decide_eq_true_eq] at y2
    rw [runL_at y2.1, y2.2, cond_true] at j3
    have g := y2.1
    refine ARun.skip (ARun.block (ARun.region ?_)); refine zzm ?_
    refine y_op rfl (q_nil rfl rfl) ?_
    refine y_op rfl (q_fldP rfl rfl rfl (by decide)) ?_
    refine y_op rfl (q_fldP rfl rfl rfl (by decide)) ?_
    refine y_op rfl (Zaa rfl rfl rfl hk1 rfl) ?_
    refine y_op rfl (OpQ.cast (d' := .int .i64 ((j + 1 : Nat) : Int)) (q_int rfl rfl rfl) (congrArg (D.int .i64) (by show IntKind.i64.wrap _ = _; rw [IntWalk.i64_in _ (by omega)]; omega))) ?_
    refine y_op rfl (q_nil rfl rfl) ?_
    refine y_op rfl (q_fldP rfl rfl rfl (by decide)) ?_
    refine y_op rfl (q_fldP rfl rfl rfl (by decide)) ?_
    refine y_new rfl (Zac rfl rfl rfl rfl hk1 rfl (Nat.le_of_ble_eq_true rfl) rfl) ?_
    refine AOps.nil (ARun.inBlock ?_)
    refine ARun.again (ih (j + 1) ?_ ?_) ?_ ?_
    · exact ⟨by omega, g, j3⟩
    · omega
    · (repeat' first | exact envLe_nil | apply envLe_any | apply envLe_same)
    (rw [List.set_set]; rfl)
  have j4 : (runL fn ((sby s).drop i)).2 = (sby s).drop j := by
    rw [j3]
    rcases Nat.lt_or_ge j s.size with g | g
    · rw [decide_eq_true g, Bool.true_and] at y
      rw [runL_at g, y]; rfl
    rw [List.drop_eq_nil_of_le (by omega)]; rfl
  have he := runL_ext j1 j2 j4
  refine ARun.exit rfl ?_
  refine ARun.seq ?_
  refine ARun.drawnP 12 (fun _ => False) mixC rfl rfl (by kernel_rfl) (fun _ _ h => h.elim) ?_
  refine .op rfl (q_move rfl) ?_
  refine .op rfl (q_nil rfl rfl) ?_
  refine .op rfl (q_fldP rfl rfl rfl (by decide)) ?_
  refine .op rfl (q_fldP rfl rfl rfl (by decide)) ?_
  refine .op rfl (Zaa rfl rfl rfl hk1 rfl) ?_
  refine .op rfl (q_move rfl) ?_
  refine .op rfl (q_move rfl) ?_
  refine .op rfl (q_nil rfl rfl) ?_
  refine .op rfl (q_fldP rfl rfl rfl (by decide)) ?_
  refine .op rfl (q_fldP rfl rfl rfl (by decide)) ?_
  refine .op rfl (Zaa rfl rfl rfl hk1 rfl) ?_
  refine .op rfl (Zbg (lo := i) (hi := j) rfl rfl (bnd_nat (n := i) rfl rfl) (bnd_nat (n := j) rfl rfl) j1 j2) ?_
  refine .nil (fun hG => ?_)
  refine zza ?_; refine AOps.nil ?_
  refine ARun.ret ?_
  exact ⟨_, _, _, .tmp rfl .nil, .cons (.same _) .nil, congrArg (fun z => Out.ret (D.str z)) he, by rw [j4]; show H.set k (rdS _ _ _ _ _) = H.set k (rdS _ _ _ _ _); rw [← hl, drop_back (by omega)]⟩
theorem ixB_fx : ∀ (u : List UInt8), Lib.indexByte u 93 = (match fx (u.map (·.toNat)) with | none => -1 | some n => ((n : Nat) : Int))
  | [] => rfl
  | c :: u => by
    have ih := ixB_fx u
    unfold Lib.indexByte
    rw [List.map_cons, fx]
    by_cases h : c = 93
    · subst h; rfl
    have h1 : (c == 93) = false := beq_eq_false_iff_ne.2 h
    have h2 : ¬ c.toNat = 93 := fun e => h (UInt8.toNat_inj.1 e)
    rw [h1, if_neg h2]
    simp only [Bool.false_eq_true, if_false]
    rw [ih]
    cases fx (u.map (·.toNat)) with
    | none => rfl
    | some n =>
      have hne : ((((n : Nat) : Int)) == -1) = false := beq_eq_false_iff_ne.2 (by omega)
      show (if ((((n : Nat) : Int)) == -1) = true then (-1 : Int) else ((n : Nat) : Int) + 1) = ((n + 1 : Nat) : Int)
      rw [hne]; rfl
theorem ix_fx (s : ByteArray) : Lib.indexByte s.data.toList (93 : Nat).toUInt8 = (match fx (sby s) with | none => -1 | some n => ((n : Nat) : Int)) := ixB_fx _
end Go.V
set_option maxHeartbeats 8000000
set_option maxRecDepth 100000
set_option synthInstance.maxSize 100000
set_option synthInstance.maxHeartbeats 2000000
namespace Go.V
open Go.RowKit Go.Proofs
theorem sby_ext_to (s : ByteArray) (i : Nat) (hi : i ≤ s.size) : sby (s.extract i s.size) = (sby s).drop i := by
  have h := sby_ext2 s i (s.size - i)
  rw [show i + (s.size - i) = s.size by omega] at h
  rw [h, List.take_of_length_le (by rw [List.length_drop, sby_len]; exact Nat.le_refl _)]
theorem dropIf_drop {l : List Nat} {i c : Nat} : dropIf c (l.drop i) = l.drop (if hdIs (l.drop i) c = true then i + 1 else i) := by
  unfold dropIf
  cases hdIs (l.drop i) c
  · rfl
  show (l.drop i).drop 1 = _
  rw [List.drop_drop]; rfl
abbrev setZ : Option AObj := some ⟨[.int .u64 0, .int .u64 0, .int .u64 0, .int .u64 0], Zai, 1, true, none⟩
theorem hc_set (H : Heap) (k : Nat) (s : ByteArray) (i n fr : Nat) (w pl : Bool) (hk : H[k]? = some (rdS s i n w pl)) (hi : i ≤ s.size) (hmax : s.size ≤ 2000) :
    HC C ZcS H [.ptr k 0, .int .i64 (fr : Int)] (fun x H' => Kp H H' k ∧ match stL ((sby s).drop i) with
      | none => x = .pan (wrongP 6 fr)
      | some (S, q) => x = .ret (setD S) ∧ H'[k]? = some (rdS s (s.size - q.length) n w pl)) := by
  have hl := sby_len s
  have hklt := (List.getElem?_eq_some_iff.1 hk).1
  obtain ⟨R, hR⟩ : ∃ R, R = stL ((sby s).drop i) := ⟨_, rfl⟩
  rw [← hR]
  unfold stL at hR
  refine HC.run Zbf ZcJ rfl ZcK (rs := [.cell 4 28]) (by rw [ZcL]) (by simp only [List.length_cons, List.length_nil, Nat.reduceAdd, Nat.reduceSub, List.replicate_succ, List.replicate_zero, List.cons_append, List.nil_append]; exact rfl) ?_
  refine ARun.seq (ARun.region ?_)
  refine y_new rfl (Zbk rfl rfl rfl rfl) ?_
  have hk0 : (H ++ [setZ])[k]? = some (rdS s i n w pl) := get_app hk
  have hc0 : (H ++ [setZ])[H.length]? = some setZ := get_last rfl
  have hkp0 : Kp H (H ++ [setZ]) k := Kp.app
  generalize H ++ [setZ] = G at *
  refine AOps.nil (ARun.seq (ARun.region ?_)); refine zzm ?_
  refine y_op rfl (q_nil rfl rfl) ?_
  refine y_op rfl (q_fldP rfl rfl rfl (by decide)) ?_
  refine y_op rfl (q_fldP rfl rfl rfl (by decide)) ?_
  refine y_op rfl (Zaa rfl rfl rfl hk0 rfl) ?_
  refine zza ?_; refine AOps.nil (ARun.seq (ARun.seq (ARun.region ?_))); refine zzm ?_
  refine y_op rfl (q_nil rfl rfl) ?_
  refine y_op rfl (q_fldP rfl rfl rfl (by decide)) ?_
  refine y_op rfl (Zdi rfl rfl rfl (hc_is G k s i n 94 w pl hk0 (by omega))) ?_
  refine AOps.nil ?_
  refine ARun.joinH (S := Nat × Heap) (fun σ : Nat × Heap => [(18, .any), (19, .any), (20, .any), (21, .any), (22, .any), (23, .any), (24, .any), (25, .any), (26, .any)]) (fun σ : Nat × Heap => σ.2) (fun σ : Nat × Heap => Kp H σ.2 k ∧ σ.2[k]? = some (rdS s σ.1 n w pl) ∧ σ.2[H.length]? = some setZ ∧ i ≤ σ.1 ∧ σ.1 ≤ s.size ∧ dropIf 94 ((sby s).drop i) = (sby s).drop σ.1) (fun run => ?_) ?_
  · skip
    have hd := dropIf_drop (l := sby s) (i := i) (c := 94)
    refine ARun.cond rfl (fun y => ?_) (fun y => ?_)
    · skip
      rw [if_pos y] at hd
      have hp := hdIs_len y
      rw [List.length_drop, hl] at hp
      refine ARun.region ?_; refine zzm ?_
      refine y_op rfl (q_nil rfl rfl) ?_
      refine y_op rfl (q_fldP rfl rfl rfl (by decide)) ?_
      refine y_op rfl (q_fldP rfl rfl rfl (by decide)) ?_
      refine y_op rfl (Zaa rfl rfl rfl hk0 rfl) ?_
      refine y_op rfl (OpQ.cast (d' := .int .i64 ((i + 1 : Nat) : Int)) (q_int rfl rfl rfl) (congrArg (D.int .i64) (by show IntKind.i64.wrap _ = _; rw [IntWalk.i64_in _ (by omega)]; omega))) ?_
      refine y_op rfl (q_nil rfl rfl) ?_
      refine y_op rfl (q_fldP rfl rfl rfl (by decide)) ?_
      refine y_op rfl (q_fldP rfl rfl rfl (by decide)) ?_
      refine y_new rfl (Zac rfl rfl rfl rfl hk0 rfl (Nat.le_of_ble_eq_true rfl) rfl) ?_
      refine AOps.nil ?_
      exact ARun.ag (run ((i + 1, G.set k (rdS s (i + 1) n w pl))) (⟨hkp0.trans Kp.set, heap_set_get hk0, (by rw [List.getElem?_set_ne (by omega)]; exact hc0), Nat.le_succ i, (by omega), hd⟩))
    rw [if_neg (by rw [y]; decide)] at hd
    refine ARun.skip ?_
    exact ARun.ag (run ((i, G)) (⟨hkp0, hk0, hc0, Nat.le_refl i, hi, hd⟩))
  rintro ⟨j, G1⟩ hj
  try dsimp only at hj ⊢
  clear hk0 hc0 hkp0
  obtain ⟨a1, a2, a3, a4, a5, a6⟩ := hj
  rw [a6] at hR
  clear a6
  refine ARun.seq (ARun.seq (ARun.region ?_)); refine zzm ?_
  refine y_op rfl (q_nil rfl rfl) ?_
  refine y_op rfl (q_fldP rfl rfl rfl (by decide)) ?_
  refine y_op rfl (Zdi rfl rfl rfl (hc_is G1 k s j n 93 w pl a2 (by omega))) ?_
  refine AOps.nil ?_
  refine ARun.joinH (S := Nat × Heap) (fun σ : Nat × Heap => [(31, .any), (32, .any), (33, .any), (34, .any), (35, .any), (36, .any), (37, .any), (38, .any), (39, .any)]) (fun σ : Nat × Heap => σ.2) (fun σ : Nat × Heap => Kp H σ.2 k ∧ σ.2[k]? = some (rdS s σ.1 n w pl) ∧ σ.2[H.length]? = some setZ ∧ i ≤ σ.1 ∧ σ.1 ≤ s.size ∧ dropIf 93 ((sby s).drop j) = (sby s).drop σ.1) (fun run => ?_) ?_
  · skip
    have hd := dropIf_drop (l := sby s) (i := j) (c := 93)
    refine ARun.cond rfl (fun y => ?_) (fun y => ?_)
    · skip
      rw [if_pos y] at hd
      have hp := hdIs_len y
      rw [List.length_drop, hl] at hp
      refine ARun.region ?_; refine zzm ?_
      refine y_op rfl (q_nil rfl rfl) ?_
      refine y_op rfl (q_fldP rfl rfl rfl (by decide)) ?_
      refine y_op rfl (q_fldP rfl rfl rfl (by decide)) ?_
      refine y_op rfl (Zaa rfl rfl rfl a2 rfl) ?_
      refine y_op rfl (OpQ.cast (d' := .int .i64 ((j + 1 : Nat) : Int)) (q_int rfl rfl rfl) (congrArg (D.int .i64) (by show IntKind.i64.wrap _ = _; rw [IntWalk.i64_in _ (by omega)]; omega))) ?_
      refine y_op rfl (q_nil rfl rfl) ?_
      refine y_op rfl (q_fldP rfl rfl rfl (by decide)) ?_
      refine y_op rfl (q_fldP rfl rfl rfl (by decide)) ?_
      refine y_new rfl (Zac rfl rfl rfl rfl a2 rfl (Nat.le_of_ble_eq_true rfl) rfl) ?_
      refine AOps.nil ?_
      exact ARun.ag (run ((j + 1, G1.set k (rdS s (j + 1) n w pl))) (⟨a1.trans Kp.set, heap_set_get a2, (by rw [List.getElem?_set_ne (by omega)]; exact a3), Nat.le_succ_of_le a4, (by omega), hd⟩))
    rw [if_neg (by rw [y]; decide)] at hd
    refine ARun.skip ?_
    exact ARun.ag (run ((j, G1)) (⟨a1, a2, a3, a4, a5, hd⟩))
  rintro ⟨m, G2⟩ hj
  try dsimp only at hj ⊢
  clear a1 a2 a3 a4 a5
  obtain ⟨a1, a2, a3, a4, a5, a6⟩ := hj
  rw [a6] at hR
  clear a6
  have hix := ix_fx (s.extract m s.size)
  rw [sby_ext_to s m a5] at hix
  obtain ⟨F, hF⟩ : ∃ F, F = fx ((sby s).drop m) := ⟨_, rfl⟩
  rw [← hF] at hR hix
  refine ARun.seq ?_
  refine ARun.drawnP 12 (fun _ => False) mixC rfl rfl (by kernel_rfl) (fun _ _ h => h.elim) ?_
  refine .op rfl (q_move rfl) ?_
  refine .op rfl (q_nil rfl rfl) ?_
  refine .op rfl (q_fldP rfl rfl rfl (by decide)) ?_
  refine .op rfl (q_fldP rfl rfl rfl (by decide)) ?_
  refine .op rfl (Zaa rfl rfl rfl a2 rfl) ?_
  refine .op rfl (q_move rfl) ?_
  refine .op rfl (q_nil rfl rfl) ?_
  refine .op rfl (q_fldP rfl rfl rfl (by decide)) ?_
  refine .op rfl (q_fldP rfl rfl rfl (by decide)) ?_
  refine .op rfl (Zaa rfl rfl rfl a2 rfl) ?_
  refine .op rfl (Zbg (lo := m) (hi := s.size) rfl rfl (bnd_nat (n := m) rfl rfl) rfl a5 (Nat.le_refl _)) ?_
  refine .op rfl (q_call rfl rfl (Zcu (s.extract m s.size) 93)) ?_
  refine .nil (fun hG => ?_)
  refine zza ?_
  rw [hix]
  cases F with
  | none =>
    replace hR : R = none := hR
    subst hR
    refine AOps.nil (ARun.seq (ARun.seq (ARun.region ?_))); refine zzm ?_; refine zzi ?_; refine AOps.nil ?_
    refine ARun.condT rfl ?_
    refine ARun.region ?_; refine zzm ?_
    refine Zad rfl rfl rfl rfl (hc_bad G2 fr) (by rintro _ _ ⟨h, _⟩; cases h) (fun q H' hq => by obtain ⟨hq, rfl⟩ := hq; injection hq with hq; subst hq; exact ⟨_, _, .same _, a1, rfl⟩)
  | some p =>
    have hp := fx_lt hF.symm
    rw [List.length_drop, hl] at hp
    replace hR : R = if (readS (bytesOf (((sby s).drop i).take (((sby s).drop i).length - (((sby s).drop m).drop (p + 1)).length - 1)))).2 = 0 then some ((readS (bytesOf (((sby s).drop i).take (((sby s).drop i).length - (((sby s).drop m).drop (p + 1)).length - 1)))).1, ((sby s).drop m).drop (p + 1)) else none := hR
    have hext : bytesOf (((sby s).drop i).take (((sby s).drop i).length - (((sby s).drop m).drop (p + 1)).length - 1)) = s.extract i (m + p) := by
      rw [show ((sby s).drop i).length - (((sby s).drop m).drop (p + 1)).length - 1 = (m + p) - i by rw [List.length_drop, List.length_drop, List.length_drop, hl]; omega, ← sby_ext2 s i (m + p - i), show i + (m + p - i) = m + p by omega, bytesOf_sby]
    rw [hext, List.drop_drop] at hR
    have hlq : ((sby s).drop (m + (p + 1))).length = s.size - (m + p + 1) := by rw [List.length_drop, hl]; omega
    have hRS := Zd0 (s.extract i (m + p))
    generalize readS (s.extract i (m + p)) = V at *
    refine AOps.nil (ARun.seq (ARun.seq (ARun.region ?_))); refine zzm ?_
    refine y_op rfl (OpQ.cast (d' := .bool false) (q_int rfl rfl rfl) (congrArg D.bool (decide_eq_false (by show ¬ ((p : Nat) : Int) < 0; omega)))) ?_
    refine AOps.nil ?_
    refine ARun.condF rfl ?_
    refine ARun.skip (ARun.seq (ARun.region ?_)); refine zzm ?_
    refine y_op rfl (q_nil rfl rfl) ?_
    refine y_op rfl (q_fldP rfl rfl rfl (by decide)) ?_
    refine y_op rfl (q_fldP rfl rfl rfl (by decide)) ?_
    refine y_op rfl (Zaa rfl rfl rfl a2 rfl) ?_
    refine zzm ?_
    refine y_op rfl (OpQ.cast (d' := .int .i64 ((p + 1 : Nat) : Int)) (q_int rfl rfl rfl) (congrArg (D.int .i64) (by show IntKind.i64.wrap (((p : Nat) : Int) + 1) = _; rw [IntWalk.i64_in _ (by omega)]; omega))) ?_
    refine y_op rfl (OpQ.cast (d' := .int .i64 ((m + p + 1 : Nat) : Int)) (q_int rfl rfl rfl) (congrArg (D.int .i64) (by show IntKind.i64.wrap _ = _; rw [IntWalk.i64_in _ (by omega)]; omega))) ?_
    refine y_op rfl (q_nil rfl rfl) ?_
    refine y_op rfl (q_fldP rfl rfl rfl (by decide)) ?_
    refine y_op rfl (q_fldP rfl rfl rfl (by decide)) ?_
    refine y_new rfl (Zac rfl rfl rfl rfl a2 rfl (Nat.le_of_ble_eq_true rfl) rfl) ?_
    have b1 : Kp H (G2.set k (rdS s (m + p + 1) n w pl)) k := a1.trans Kp.set
    have b2 : (G2.set k (rdS s (m + p + 1) n w pl))[k]? = some (rdS s (m + p + 1) n w pl) := heap_set_get a2
    have b3 : (G2.set k (rdS s (m + p + 1) n w pl))[H.length]? = some setZ := by rw [List.getElem?_set_ne (by omega)]; exact a3
    refine AOps.hp (H' := G2.set k (rdS s (m + p + 1) n w pl)) rfl ?_
    generalize G2.set k (rdS s (m + p + 1) n w pl) = G3 at *
    clear a1 a2 a3
    refine AOps.nil (ARun.seq ?_)
    refine ARun.drawnF (n := 19) (fun S : Nat → Bool => _) [(17, 7, 28, [.int .u64 0, .int .u64 0, .int .u64 0, .int .u64 0], some (18, swL V.1))] (fun _ => False) (sk := [(17, some 18)]) mixC rfl rfl (by kernel_rfl) rfl (by kernel_rfl) rfl rfl (fun _ _ _ h => h.elim) ?_
    refine DChG.op rfl (fun _ => q_move rfl) (fun _ => rfl) rfl rfl ?_
    refine DChG.op rfl (fun _ => q_nil rfl rfl) (fun _ => rfl) rfl rfl ?_
    refine DChG.op rfl (fun _ => q_fldP rfl rfl rfl (by decide)) (fun _ => rfl) rfl rfl ?_
    refine DChG.op rfl (fun _ => q_fldP rfl rfl rfl (by decide)) (fun _ => rfl) rfl rfl ?_
    refine DChG.op rfl (fun _ => Zaa rfl rfl rfl b2 rfl) (fun _ => rfl) rfl rfl ?_
    refine DChG.op rfl (fun _ => q_move rfl) (fun _ => rfl) rfl rfl ?_
    refine DChG.op rfl (fun _ => q_move rfl) (fun _ => rfl) rfl rfl ?_
    refine DChG.op rfl (fun _ => q_nil rfl rfl) (fun _ => rfl) rfl rfl ?_
    refine DChG.op rfl (fun _ => q_fldP rfl rfl rfl (by decide)) (fun _ => rfl) rfl rfl ?_
    refine DChG.op rfl (fun _ => q_fldP rfl rfl rfl (by decide)) (fun _ => rfl) rfl rfl ?_
    refine DChG.op rfl (fun _ => Zaa rfl rfl rfl b2 rfl) (fun _ => rfl) rfl rfl ?_
    refine DChG.op rfl (fun _ => OpQ.cast (d' := .int .i64 ((m + p : Nat) : Int)) (q_int rfl rfl rfl) (congrArg (D.int .i64) (by show IntKind.i64.wrap _ = _; rw [IntWalk.i64_in _ (by omega)]; omega))) (fun _ => rfl) rfl rfl ?_
    refine DChG.op rfl (fun _ => Zbg (lo := i) (hi := m + p) rfl rfl (bnd_nat (n := i) rfl rfl) (bnd_nat (n := m + p) rfl rfl) (by omega) (by omega)) (fun _ => rfl) rfl rfl ?_
    refine DChG.op rfl (fun _ => q_call rfl rfl (hRS)) (fun _ => rfl) rfl rfl ?_
    refine DChG.op rfl (fun _ => q_move rfl) (fun _ => rfl) rfl rfl ?_
    refine DChG.op rfl (fun _ => Zeq rfl rfl) (fun _ => rfl) rfl rfl ?_
    refine DChG.op rfl (fun _ => Zeq rfl rfl) (fun _ => rfl) rfl rfl ?_
    refine .al rfl rfl rfl rfl (fun _ => rfl) rfl rfl rfl ?_
    refine .sp (j := 17) rfl rfl rfl rfl rfl rfl rfl (fun _ => rfl) rfl rfl rfl (by kernel_rfl) ?_
    refine .nil (fun hG => AOps.fixed (as' := [(17, 7, 28, swL V.1)]) rfl ?_)
    refine zza ?_; refine AOps.nil (ARun.seq (ARun.seq (ARun.region ?_))); refine zzm ?_
    refine y_op rfl (OpQ.cast (d' := .bool (!decide (V.2 = 0))) (q_int rfl rfl rfl) (congrArg D.bool (by rw [Bool.eq_iff_iff]; simp))) ?_
    refine AOps.nil ?_
    refine ARun.cond rfl (fun z => ?_) (fun z => ?_)
    · skip
      have z : ¬ V.2 = 0 := by simpa using z
      rw [if_neg z] at hR
      subst hR
      refine ARun.region ?_; refine zzm ?_
      refine Zad rfl rfl rfl rfl (hc_bad G3 fr) (by rintro _ _ ⟨h, _⟩; cases h) (fun q H' hq => by obtain ⟨hq, rfl⟩ := hq; injection hq with hq; subst hq; exact ⟨_, _, .same _, b1, rfl⟩)
    have z : V.2 = 0 := by simpa using z
    rw [if_pos z] at hR
    subst hR
    refine ARun.skip (ARun.seq (ARun.region ?_)); refine zzL ?_
    refine y_new rfl (Zaw rfl rfl rfl rfl rfl rfl b3 rfl (Nat.le_of_ble_eq_true rfl) rfl) ?_
    refine AOps.nil ?_
    refine ARun.ret ?_
    refine ⟨_, _, _, ResR.cellA rfl rfl rfl (heap_set_get b3) rfl rfl .nil, .cons (.same _) .nil, b1.put (Nat.le_refl _), rfl, ?_⟩
    show (G3.set H.length _)[k]? = _
    rw [List.getElem?_set_ne (by omega), b2, hlq, show s.size - (s.size - (m + p + 1)) = m + p + 1 by omega]
end Go.V
