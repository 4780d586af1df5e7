/- A part of the proof: abstract values, rules for the steps of the program's form, and contracts of its functions, each proved; no condition. -/
import Derived.Test.YthankfodgdfgaaaDoorA11
set_option linter.unusedVariables false
set_option linter.unusedSimpArgs false
set_option linter.unnecessarySimpa false
set_option maxHeartbeats 8000000
set_option maxRecDepth 100000
set_option synthInstance.maxSize 100000
set_option synthInstance.maxHeartbeats 2000000
namespace Go.V
open Go.RowKit Go.Proofs
theorem argL_suf (r : List Nat) : ∃ u, r = u ++ (argL r).2.2.2 := by
  unfold argL
  cases hdIs r 42
  · rw [cond_false]
    cases decide (0 < (dgL 0 r).1) && hdIs (dgL 0 r).2 36
    · exact ⟨[], rfl⟩
    obtain ⟨u, hu⟩ := dgL_suf 0 r
    refine ⟨u ++ (dgL 0 r).2.take 1, ?_⟩
    show r = _ ++ (dgL 0 r).2.drop 1
    rw [List.append_assoc, List.take_append_drop]; exact hu
  exact ⟨r.take 1, (List.take_append_drop 1 r).symm⟩
theorem argL_le (r : List Nat) : (argL r).1 ≤ 100000 := by
  unfold argL
  cases hdIs r 42
  · rw [cond_false]
    cases decide (0 < (dgL 0 r).1) && hdIs (dgL 0 r).2 36
    · exact Nat.zero_le _
    exact (dgL_le 0 r (by decide)).1
  exact Nat.zero_le _
abbrev pO (a wd ln c : Int) (S : Nat → Bool) : Option AObj := some ⟨[.str ByteArray.empty, .int .i64 a, .int .i64 wd, .int .i64 ln, .int .u8 c, .int .u64 ((sw S 0 : Nat) : Int), .int .u64 ((sw S 1 : Nat) : Int), .int .u64 ((sw S 2 : Nat) : Int), .int .u64 ((sw S 3 : Nat) : Int)], Zab, 1, true, none⟩
theorem pO_zero : pO 0 0 0 0 sempty = some ⟨[.str ByteArray.empty, .int .i64 0, .int .i64 0, .int .i64 0, .int .u8 0, .int .u64 0, .int .u64 0, .int .u64 0, .int .u64 0], Zab, 1, true, none⟩ := by
  have e : ∀ i, sw sempty i = 0 := fun i => (sw_ext (x := 0) (by decide) fun j _ => by rw [Nat.zero_testBit]; rfl).symm
  unfold pO
  simp only [e]; rfl
theorem apZ (H : Heap) {n : Nat} (hn : H.length = n) : AppL H (some ⟨[.str ⟨#[]⟩, .int .i64 0, .int .i64 0, .int .i64 0, .int .u8 0, .int .u64 0, .int .u64 0, .int .u64 0, .int .u64 0], Zab, 1, true, none⟩) n (H ++ [pO 0 0 0 0 sempty]) := ⟨hn, by rw [pO_zero]; rfl⟩
theorem stL_suf {r : List Nat} {S : Nat → Bool} {q : List Nat} (h : stL r = some (S, q)) : ∃ u, r = u ++ q := by
  unfold stL at h
  cases hf : fx (dropIf 93 (dropIf 94 r)) with
  | none => rw [hf] at h; cases h
  | some n =>
    rw [hf] at h
    simp only at h
    split at h
    · injection h with h
      injection h with _ h
      obtain ⟨u1, h1⟩ := dropIf_suf 94 r
      obtain ⟨u2, h2⟩ := dropIf_suf 93 (dropIf 94 r)
      refine ⟨u1 ++ (u2 ++ (dropIf 93 (dropIf 94 r)).take (n + 1)), ?_⟩
      rw [← h, List.append_assoc, List.append_assoc, List.take_append_drop, ← h2, ← h1]
    cases h
structure CvS (H G : Heap) (k x1 x2 : Nat) (rd p : Option AObj) : Prop where
  kp : Kp H G k
  rd : G[k]? = some rd
  res : G[x1]? = some (pO 0 0 0 0 sempty)
  pc : G[x2]? = some p
theorem CvS.setR {H G : Heap} {k x1 x2 : Nat} {rd p rd' : Option AObj} (h : CvS H G k x1 x2 rd p) (h1 : x1 ≠ k) (h2 : x2 ≠ k) : CvS H (G.set k rd') k x1 x2 rd' p :=
  ⟨h.kp.trans Kp.set, heap_set_get h.rd, by rw [List.getElem?_set_ne (fun e => h1 e.symm)]; exact h.res, by rw [List.getElem?_set_ne (fun e => h2 e.symm)]; exact h.pc⟩
theorem CvS.setP {H G : Heap} {k x1 x2 : Nat} {rd p p' : Option AObj} (h : CvS H G k x1 x2 rd p) (hx : H.length ≤ x2) (h1 : x2 ≠ x1) (h2 : x2 ≠ k) : CvS H (G.set x2 p') k x1 x2 rd p' :=
  ⟨h.kp.put hx, by rw [List.getElem?_set_ne h2]; exact h.rd, by rw [List.getElem?_set_ne h1]; exact h.res, heap_set_get h.pc⟩
theorem Ze9 (H : Heap) (k : Nat) (s : ByteArray) (i n : Nat) (w pl : Bool) (hk : H[k]? = some (rdS s i n w pl)) (h1 : 1 ≤ i) (hi : i ≤ s.size) (hmax : s.size ≤ 2000) (hn : n ≤ 1000) :
    HC Cg Zbv H [.ptr k 0] (fun x H' => Kp H H' k ∧ match convL n w pl ((sby s).drop i) with
      | .bad => x = .pan (wrongP 6 (i - 1))
      | .lim => x = .pan (wrongP 2 (i - 1))
      | .ok p q c' w' pl' => x = .ret (pcA p) ∧ H'[k]? = some (rdS s (s.size - q.length) c' w' pl')) := by
  have hl := sby_len s
  have hklt := (List.getElem?_eq_some_iff.1 hk).1
  obtain ⟨R, hR⟩ : ∃ R, R = convL n w pl ((sby s).drop i) := ⟨_, rfl⟩
  rw [← hR]
  unfold convL at hR
  have hsa := argL_suf ((sby s).drop i)
  have hale := argL_le ((sby s).drop i)
  refine HC.run ZaF Zbm rfl Zbn (rs := [.cell 2 46]) (by rw [Zbo]) (by simp only [List.length_cons, List.length_nil, Nat.reduceAdd, Nat.reduceSub, List.replicate_succ, List.replicate_zero, List.cons_append, List.nil_append]; exact rfl) ?_
  refine ARun.seq (ARun.region ?_)
  refine y_new rfl (Zbk (ap := apZ H rfl) rfl rfl rfl rfl) ?_
  refine AOps.nil (ARun.seq (ARun.region ?_)); refine zzm ?_
  refine y_op rfl (q_nil rfl rfl) ?_
  refine y_op rfl (q_fldP rfl rfl rfl (by decide)) ?_
  refine y_op rfl (q_fldP rfl rfl rfl (by decide)) ?_
  refine y_op rfl (Zaa rfl rfl rfl (get_app hk) rfl) ?_
  refine y_op rfl (OpQ.cast (d' := .int .i64 ((i - 1 : Nat) : Int)) (q_int rfl rfl rfl) (congrArg (D.int .i64) (by show IntKind.i64.wrap _ = _; rw [IntWalk.i64_in _ (by omega)]; omega))) ?_
  refine zza ?_; refine AOps.nil (ARun.seq (ARun.region ?_))
  refine y_new rfl (Zbk (ap := apZ _ (n := H.length + 1) (by simp)) rfl rfl rfl rfl) ?_
  have hcv : CvS H ((H ++ [pO 0 0 0 0 sempty]) ++ [pO 0 0 0 0 sempty]) k H.length (H.length + 1) (rdS s i n w pl) (pO 0 0 0 0 sempty) := ⟨Kp.app.trans Kp.app, get_app (get_app hk), get_app (get_last rfl), get_last (by simp)⟩
  obtain ⟨x1, hx1⟩ : ∃ x1, x1 = H.length := ⟨_, rfl⟩
  obtain ⟨x2, hx2⟩ : ∃ x2, x2 = H.length + 1 := ⟨_, rfl⟩
  have hx12 : x2 = x1 + 1 := by rw [hx2, hx1]
  rw [← hx2, ← hx1] at hcv ⊢
  have n1 : x1 ≠ k := by omega
  have n2 : x2 ≠ k := by omega
  have n3 : x2 ≠ x1 := by omega
  have n4 : H.length ≤ x2 := by omega
  generalize (H ++ [pO 0 0 0 0 sempty]) ++ [pO 0 0 0 0 sempty] = G at *
  have hA := HC.g (ZfD G k s i n w pl hcv.rd hi (by omega))
  generalize argL ((sby s).drop i) = a at *
  obtain ⟨u1, hu1⟩ := hsa
  obtain ⟨e1, e2⟩ := suf_drop (by omega) hu1
  rw [hl] at e1 e2
  refine AOps.nil (ARun.seq (ARun.region ?_)); refine zzm ?_
  refine Zad rfl rfl rfl rfl hA ?_ (by rintro _ _ ⟨h, _⟩; cases h)
  rintro q1 H1 ⟨f1, rfl⟩
  injection f1 with f1
  subst f1
  have hcv := hcv.setR (rd' := rdS s (s.size - a.2.2.2.length) n (w || a.2.2.1) pl) n1 n2
  generalize G.set k (rdS s (s.size - a.2.2.2.length) n (w || a.2.2.1) pl) = G at *
  have hN := HC.g (Zfl G k s (s.size - a.2.2.2.length) n (w || a.2.2.1) pl hcv.rd (by omega) (by omega))
  obtain ⟨u2, hu2⟩ := dgL_suf 0 a.2.2.2
  have hd5 := (dgL_le 0 a.2.2.2 (by decide)).1
  rw [e1] at hN
  generalize dgL 0 a.2.2.2 = d at *
  obtain ⟨e3, e4⟩ := suf_drop (l := sby s) (i := s.size - a.2.2.2.length) (by omega) (e1.trans hu2)
  rw [hl] at e3 e4
  refine zzm ?_; refine zze ?_; refine zze ?_; refine zza ?_; refine zza ?_; refine AOps.nil (ARun.seq (ARun.region ?_)); refine zzm ?_
  refine y_op rfl (q_nil rfl rfl) ?_
  refine y_op rfl (q_fldP rfl rfl rfl (by decide)) ?_
  refine Zad rfl rfl rfl rfl hN ?_ (by rintro _ _ ⟨h, _⟩; cases h)
  rintro q1 H1 ⟨f1, rfl⟩
  injection f1 with f1
  subst f1
  have hcv := hcv.setR (rd' := rdS s (s.size - d.2.length) n (w || a.2.2.1) pl) n1 n2
  generalize G.set k (rdS s (s.size - d.2.length) n (w || a.2.2.1) pl) = G at *
  refine y_op rfl (q_fldP rfl rfl rfl (by decide)) ?_
  refine y_new rfl (Zac rfl rfl rfl rfl hcv.pc rfl (Nat.le_of_ble_eq_true rfl) rfl) ?_
  refine AOps.nil (ARun.seq (ARun.region ?_)); refine zzm ?_
  have hcv := hcv.setP (p' := pO 0 (d.1 : Int) 0 0 sempty) n4 n3 n2
  refine AOps.hp (H' := G.set x2 (pO 0 (d.1 : Int) 0 0 sempty)) rfl ?_
  generalize G.set x2 (pO 0 (d.1 : Int) 0 0 sempty) = G at *
  have hL := Zgb G k s (s.size - d.2.length) n (w || a.2.2.1) pl hcv.rd (by omega) hmax
  rw [e3] at hL
  have hm12 := (modL_ok d.2).1
  have hml := modL_len d.2
  generalize modL d.2 = ln at *
  obtain ⟨j, hj⟩ : ∃ j, j = s.size - d.2.length + (lenAt ln).length := ⟨_, rfl⟩
  rw [← hj] at hL
  have hjs : j ≤ s.size := by omega
  have e5 : (sby s).drop j = d.2.drop (lenAt ln).length := by rw [hj, ← List.drop_drop, e3]
  rw [← e5] at hR
  refine Zad rfl rfl rfl rfl hL ?_ (by rintro _ _ ⟨h, _⟩; cases h)
  rintro q1 H1 ⟨f1, rfl⟩
  injection f1 with f1
  subst f1
  have hcv := hcv.setR (rd' := rdS s j n (w || a.2.2.1) pl) n1 n2
  generalize G.set k (rdS s j n (w || a.2.2.1) pl) = G at *
  refine y_op rfl (q_fldP rfl rfl rfl (by decide)) ?_
  refine y_new rfl (Zac rfl rfl rfl rfl hcv.pc rfl (Nat.le_of_ble_eq_true rfl) rfl) ?_
  have hcv := hcv.setP (p' := pO 0 (d.1 : Int) (ln : Int) 0 sempty) n4 n3 n2
  refine AOps.hp (H' := G.set x2 (pO 0 (d.1 : Int) (ln : Int) 0 sempty)) rfl ?_
  generalize G.set x2 (pO 0 (d.1 : Int) (ln : Int) 0 sempty) = G at *
  refine AOps.nil (ARun.seq (ARun.seq ?_))
  refine ARun.drawnP 12 (fun _ => False) mixC rfl rfl (by kernel_rfl) (fun _ _ h => h.elim) ?_
  refine .op rfl (q_move rfl) ?_
  refine .op rfl (q_nil rfl rfl) ?_
  first
    | refine .op rfl (q_fldP rfl rfl rfl (by decide)) ?_
    | refine .op rfl (q_fldS rfl rfl rfl (by decide)) ?_
  first
    | refine .op rfl (q_fldP rfl rfl rfl (by decide)) ?_
    | refine .op rfl (q_fldS rfl rfl rfl (by decide)) ?_
  refine .op rfl (Zaa rfl rfl rfl hcv.rd rfl) ?_
  refine .op rfl (q_move rfl) ?_
  refine .op rfl (q_nil rfl rfl) ?_
  first
    | refine .op rfl (q_fldP rfl rfl rfl (by decide)) ?_
    | refine .op rfl (q_fldS rfl rfl rfl (by decide)) ?_
  first
    | refine .op rfl (q_fldP rfl rfl rfl (by decide)) ?_
    | refine .op rfl (q_fldS rfl rfl rfl (by decide)) ?_
  refine .op rfl (Zaa rfl rfl rfl hcv.rd rfl) ?_
  refine .op rfl (Zae rfl rfl) ?_
  refine .op rfl (OpQ.cast (d' := .bool (decide (s.size ≤ j))) (q_int rfl rfl rfl) (congrArg D.bool (decide_eq_decide.2 (by omega)))) ?_
  refine .nil (fun hG => ?_)
  refine AOps.nil ?_
  refine ARun.ite rfl (fun z => ?_) (fun z => ?_)
  · skip
    rw [List.drop_eq_nil_of_le (by omega), convC] at hR
    subst hR
    refine ARun.region ?_; refine zzm ?_
    refine Zad rfl rfl rfl rfl (HC.g (hc_bad G (i - 1))) (by rintro _ _ ⟨h, _⟩; cases h) (fun q H' hq => by obtain ⟨hq, rfl⟩ := hq; injection hq with hq; subst hq; exact ⟨_, _, .same _, hcv.kp, rfl⟩)
  have hjlt : j < s.size := by omega
  rw [drop_getD (sby s) j 0 (by omega), convC] at hR
  have hc256 := sby_lt (s := s) j
  obtain ⟨c, hc⟩ : ∃ c, c = (sby s).getD j 0 := ⟨_, rfl⟩
  rw [← hc] at hR hc256
  refine ARun.skip (ARun.seq ?_)
  refine ARun.drawnP 11 (fun _ => False) mixC rfl rfl (by kernel_rfl) (fun _ _ h => h.elim) ?_
  refine .op rfl (q_move rfl) ?_
  refine .op rfl (q_nil rfl rfl) ?_
  first
    | refine .op rfl (q_fldP rfl rfl rfl (by decide)) ?_
    | refine .op rfl (q_fldS rfl rfl rfl (by decide)) ?_
  first
    | refine .op rfl (q_fldP rfl rfl rfl (by decide)) ?_
    | refine .op rfl (q_fldS rfl rfl rfl (by decide)) ?_
  refine .op rfl (Zaa rfl rfl rfl hcv.rd rfl) ?_
  refine .op rfl (q_move rfl) ?_
  refine .op rfl (q_nil rfl rfl) ?_
  first
    | refine .op rfl (q_fldP rfl rfl rfl (by decide)) ?_
    | refine .op rfl (q_fldS rfl rfl rfl (by decide)) ?_
  first
    | refine .op rfl (q_fldP rfl rfl rfl (by decide)) ?_
    | refine .op rfl (q_fldS rfl rfl rfl (by decide)) ?_
  refine .op rfl (Zaa rfl rfl rfl hcv.rd rfl) ?_
  refine .op rfl (Zaq rfl rfl rfl (by omega) (by omega) (show _ = (c : Int) by rw [hc]; exact sby_get _)) ?_
  refine .nil (fun hG => ?_)
  first
    | refine y_op rfl (q_fldP rfl rfl rfl (by decide)) ?_
    | refine y_op rfl (q_fldS rfl rfl rfl (by decide)) ?_
  refine y_new rfl (Zac rfl rfl rfl rfl hcv.pc rfl (Nat.le_of_ble_eq_true rfl) rfl) ?_
  have hcv := hcv.setP (p' := pO 0 (d.1 : Int) (ln : Int) (c : Int) sempty) n4 n3 n2
  refine AOps.hp (H' := G.set x2 (pO 0 (d.1 : Int) (ln : Int) (c : Int) sempty)) rfl ?_
  generalize G.set x2 (pO 0 (d.1 : Int) (ln : Int) (c : Int) sempty) = G at *
  refine AOps.nil (ARun.seq (ARun.region ?_)); refine zzm ?_
  refine y_op rfl (q_nil rfl rfl) ?_
  first
    | refine y_op rfl (q_fldP rfl rfl rfl (by decide)) ?_
    | refine y_op rfl (q_fldS rfl rfl rfl (by decide)) ?_
  first
    | refine y_op rfl (q_fldP rfl rfl rfl (by decide)) ?_
    | refine y_op rfl (q_fldS rfl rfl rfl (by decide)) ?_
  refine y_op rfl (Zaa rfl rfl rfl hcv.rd rfl) ?_
  refine y_op rfl (OpQ.cast (d' := .int .i64 ((j + 1 : Nat) : Int)) (q_int rfl rfl rfl) (congrArg (D.int .i64) (by show IntKind.i64.wrap _ = _; rw [IntWalk.i64_in _ (by omega)]; omega))) ?_
  refine y_op rfl (q_nil rfl rfl) ?_
  first
    | refine y_op rfl (q_fldP rfl rfl rfl (by decide)) ?_
    | refine y_op rfl (q_fldS rfl rfl rfl (by decide)) ?_
  first
    | refine y_op rfl (q_fldP rfl rfl rfl (by decide)) ?_
    | refine y_op rfl (q_fldS rfl rfl rfl (by decide)) ?_
  refine y_new rfl (Zac rfl rfl rfl rfl hcv.rd rfl (Nat.le_of_ble_eq_true rfl) rfl) ?_
  have hcv := hcv.setR (rd' := rdS s (j + 1) n (w || a.2.2.1) pl) n1 n2
  refine AOps.hp (H' := G.set k (rdS s (j + 1) n (w || a.2.2.1) pl)) rfl ?_
  generalize G.set k (rdS s (j + 1) n (w || a.2.2.1) pl) = G at *
  refine AOps.nil (ARun.seq (ARun.seq (ARun.region ?_)))
  first
    | refine y_op rfl (Zaa rfl rfl rfl rfl rfl) ?_
    | refine y_op rfl (q_load rfl rfl rfl rfl) ?_
    | refine y_op rfl (q_load rfl rfl rfl (lim_load (by omega))) ?_
    | refine y_op rfl (q_load rfl rfl rfl (nts_load (by omega))) ?_
    | refine y_op rfl (Zaa rfl rfl rfl rfl (nts_get (by omega))) ?_
    | refine y_op rfl (Zaa rfl rfl rfl rfl (win_get (by assumption) (by omega))) ?_
  first
    | refine y_op rfl (q_fldP rfl rfl rfl (by decide)) ?_
    | refine y_op rfl (q_fldS rfl rfl rfl (by decide)) ?_
  refine y_op rfl (Zaa rfl rfl rfl hcv.pc rfl) ?_
  refine y_op rfl (OpQ.cast (d' := .int .i64 ((sclass c : Nat) : Int)) (Zfd (kt := Zbl) (et := t_int) (by kernel_rfl) (by kernel_rfl) rfl rfl rfl rfl rfl (row_of hc256)) (by split <;> (rename_i hz; simp [hz]))) ?_
  refine zza ?_; refine AOps.nil (ARun.seq (ARun.region ?_)); refine zzm ?_
  refine y_op rfl (OpQ.cast (d' := .bool (decide (sclass c = 0))) (q_int rfl rfl rfl) (congrArg D.bool (decide_eq_decide.2 (by omega)))) ?_
  refine zzm ?_
  apply AOps.orJ 68 (fun sj1 => [(68, .any), (69, .any), (70, .any), (71, .any), (72, .any), (73, .any), (74, .bool sj1)]) rfl
  · intro hj1 run1
    try replace hj1 := of_decide_eq_true hj1
    refine zzk ?_; refine zzk ?_; refine zzk ?_; refine zzk ?_; refine zzk ?_; refine zzp ?_
    exact AOps.ag run1
  · intro hj1 run1
    try replace hj1 := of_decide_eq_false hj1
    refine zzm ?_
    first
      | refine y_op rfl (q_fldP rfl rfl rfl (by decide)) ?_
      | refine y_op rfl (q_fldS rfl rfl rfl (by decide)) ?_
    refine y_op rfl (Zaa rfl rfl rfl hcv.pc rfl) ?_
    refine zzc rfl rfl (PC.g (ZfF ((sclass c : Nat) : Int) (ln : Int) ⟨by omega, by have := sclass_le c; omega⟩)) ?_
    refine zzn ?_; refine zzp ?_
    exact AOps.ag run1
  refine zzm ?_
  apply AOps.orJ 75 (fun sj2 => [(75, .any), (76, .any), (77, .any), (78, .any), (79, .any), (80, .any), (81, .any), (82, .any), (83, .any), (84, .any), (85, .any), (86, .bool sj2)]) rfl
  · intro hj2 run2
    try replace hj2 := of_decide_eq_true hj2
    refine zzk ?_; refine zzk ?_; refine zzk ?_; refine zzk ?_; refine zzk ?_; refine zzk ?_; refine zzk ?_; refine zzk ?_; refine zzk ?_; refine zzk ?_; refine zzp ?_
    exact AOps.ag run2
  · intro hj2 run2
    try replace hj2 := of_decide_eq_false hj2
    refine zzm ?_
    refine y_op rfl (OpQ.cast (d' := .bool (decide (sclass c = 5))) (q_int rfl rfl rfl) (congrArg D.bool (decide_eq_decide.2 (by omega)))) ?_
    refine zzm ?_
    apply AOps.andJ 78 (fun sj3 => [(78, .any), (79, .any), (80, .any), (81, .any), (82, .any), (83, .any), (84, .any), (85, .bool sj3)]) rfl
    · intro hj3 run3
      try replace hj3 := of_decide_eq_true hj3
      refine zzm ?_; refine zzm ?_
      apply AOps.orJ 80 (fun sj4 => [(80, .any), (81, .any), (82, .any), (83, .any), (84, .bool sj4)]) rfl
      · intro hj4 run4
        try replace hj4 := of_decide_eq_true hj4
        refine zzk ?_; refine zzk ?_; refine zzk ?_; refine zzp ?_
        exact AOps.ag run4
      · intro hj4 run4
        try replace hj4 := of_decide_eq_false hj4
        first
          | refine y_op rfl (q_fldP rfl rfl rfl (by decide)) ?_
          | refine y_op rfl (q_fldS rfl rfl rfl (by decide)) ?_
        refine y_op rfl (Zaa rfl rfl rfl hcv.pc rfl) ?_
        refine y_op rfl (OpQ.cast (d' := .bool (decide (0 < d.1))) (q_int rfl rfl rfl) (congrArg D.bool (decide_eq_decide.2 (by omega)))) ?_
        refine zzp ?_
        exact AOps.ag run4
      refine zzp ?_
      exact AOps.ag run3
    · intro hj3 run3
      try replace hj3 := of_decide_eq_false hj3
      refine zzk ?_; refine zzk ?_; refine zzk ?_; refine zzk ?_; refine zzk ?_; refine zzk ?_; refine zzp ?_
      exact AOps.ag run3
    refine zzp ?_
    exact AOps.ag run2
  refine AOps.nil ?_
  refine ARun.cond rfl (fun u => ?_) (fun u => ?_)
  · skip
    rw [u, cond_true] at hR
    subst hR
    refine ARun.region ?_; refine zzm ?_
    refine Zad rfl rfl rfl rfl (HC.g (hc_bad G (i - 1))) (by rintro _ _ ⟨h, _⟩; cases h) (fun q H' hq => by obtain ⟨hq, rfl⟩ := hq; injection hq with hq; subst hq; exact ⟨_, _, .same _, hcv.kp, rfl⟩)
  rw [u, cond_false] at hR
  clear u
  refine ARun.skip (ARun.seq (ARun.seq (ARun.region ?_)))
  first
    | refine y_op rfl (q_fldP rfl rfl rfl (by decide)) ?_
    | refine y_op rfl (q_fldS rfl rfl rfl (by decide)) ?_
  refine y_op rfl (Zaa rfl rfl rfl hcv.pc rfl) ?_
  refine y_op rfl (OpQ.cast (q_int rfl rfl rfl) (congrArg D.bool (int_dec (m := 91) rfl))) ?_
  refine AOps.nil ?_
  refine ARun.joinH (S := (Nat → Bool) × Nat × Heap) (fun σ : (Nat → Bool) × Nat × Heap => [(92, .any), (93, .any), (94, .any), (95, .any)]) (fun σ : (Nat → Bool) × Nat × Heap => σ.2.2) (fun σ : (Nat → Bool) × Nat × Heap => CvS H σ.2.2 k x1 x2 (rdS s σ.2.1 n (w || a.2.2.1) pl) (pO 0 (d.1 : Int) (ln : Int) (c : Int) σ.1) ∧ σ.2.1 ≤ s.size ∧ R = convE n w pl a.1 a.2.1 a.2.2.1 d.1 ln c σ.1 ((sby s).drop σ.2.1)) (fun run => ?_) ?_
  · skip
    refine ARun.ite rfl (fun y => ?_) (fun y => ?_)
    · skip
      rw [if_pos y] at hR
      have hst := hc_set G k s (j + 1) n (i - 1) (w || a.2.2.1) pl hcv.rd (by omega) hmax
      have hsf := fun S q => stL_suf (r := (sby s).drop (j + 1)) (S := S) (q := q)
      generalize stL ((sby s).drop (j + 1)) = X at *
      cases X with
      | none =>
        replace hR : R = .bad := hR
        subst hR
        refine ARun.region ?_; refine zzm ?_; refine zzm ?_
        refine Zad rfl rfl rfl rfl (HC.g hst) (by rintro _ _ ⟨_, h⟩; cases h) (fun q H' hq => by obtain ⟨hq1, hq⟩ := hq; injection hq with hq; subst hq; exact ⟨_, _, .same _, hcv.kp.trans hq1, rfl⟩)
      | some X =>
        obtain ⟨S, q⟩ := X
        replace hR : R = convE n w pl a.1 a.2.1 a.2.2.1 d.1 ln c S q := hR
        obtain ⟨u3, hu3⟩ := hsf S q rfl
        obtain ⟨e7, e8⟩ := suf_drop (l := sby s) (i := j + 1) (by omega) hu3
        rw [hl] at e7 e8
        refine ARun.region ?_; refine zzm ?_; refine zzm ?_
        refine Zad rfl rfl rfl rfl (HC.g hst) ?_ (by rintro _ _ ⟨_, h, _⟩; cases h)
        rintro q1 H1 ⟨f0, f1, f2⟩
        injection f1 with f1
        subst f1
        have hg1 := hcv.res
        have hg2 := hcv.pc
        have hcv : CvS H H1 k x1 x2 (rdS s (s.size - q.length) n (w || a.2.2.1) pl) (pO 0 (d.1 : Int) (ln : Int) (c : Int) sempty) := ⟨hcv.kp.trans f0, f2, (f0.2 x1 (List.getElem?_eq_some_iff.1 hg1).1 n1).trans hg1, (f0.2 x2 (List.getElem?_eq_some_iff.1 hg2).1 n2).trans hg2⟩
        first
          | refine y_op rfl (q_fldP rfl rfl rfl (by decide)) ?_
          | refine y_op rfl (q_fldS rfl rfl rfl (by decide)) ?_
        refine y_new rfl (Zaw rfl rfl rfl rfl rfl rfl hcv.pc rfl (Nat.le_of_ble_eq_true rfl) rfl) ?_
        refine AOps.nil ?_
        exact ARun.ag (run ((S, s.size - q.length, H1.set x2 (pO 0 (d.1 : Int) (ln : Int) (c : Int) S))) (⟨hcv.setP n4 n3 n2, (by dsimp only; omega), (by dsimp only; rw [e7]; exact hR)⟩))
    rw [if_neg y] at hR
    refine ARun.skip ?_
    exact ARun.ag (run ((sempty, j + 1, G)) (⟨hcv, hjlt, hR⟩))
  rintro ⟨S, j2, G2⟩ hj
  try dsimp only at hj ⊢
  clear hcv hR
  obtain ⟨hcv, hj2, hR⟩ := hj
  unfold convE at hR
  refine ARun.seq (ARun.seq (ARun.region ?_)); refine zzm ?_; refine zzn ?_; refine zzm ?_
  apply AOps.andJ 98 (fun sj5 => [(98, .any), (99, .any), (100, .any), (101, .bool sj5)]) rfl
  · intro hj5 run5
    try replace hj5 := of_decide_eq_true hj5
    refine zzm ?_
    refine y_op rfl (OpQ.cast (d' := .bool (decide (a.1 = 0))) (q_int rfl rfl rfl) (congrArg D.bool (decide_eq_decide.2 (by omega)))) ?_
    refine zzp ?_
    exact AOps.ag run5
  · intro hj5 run5
    try replace hj5 := of_decide_eq_false hj5
    refine zzk ?_; refine zzk ?_; refine zzp ?_
    exact AOps.ag run5
  obtain ⟨fr, hfr⟩ : ∃ fr, fr = (!a.2.1 && decide (a.1 = 0)) := ⟨_, rfl⟩
  rw [← hfr] at hR
  rw [← hfr]
  refine AOps.nil ?_
  refine ARun.joinH (S := Nat × Nat × Bool × Heap) (fun σ : Nat × Nat × Bool × Heap => [(102, .any), (103, .any), (104, .any), (105, .any), (106, .any), (107, .any), (108, .any), (109, .any), (110, .any), (111, .any), (112, .any), (113, .any), (114, .any), (115, .any), (5, .int .i64 (σ.2.1 : Int))]) (fun σ : Nat × Nat × Bool × Heap => σ.2.2.2) (fun σ : Nat × Nat × Bool × Heap => CvS H σ.2.2.2 k x1 x2 (rdS s j2 σ.1 (w || a.2.2.1) σ.2.2.1) (pO 0 (d.1 : Int) (ln : Int) (c : Int) S) ∧ σ.1 = (if fr = true then n + 1 else n) ∧ σ.2.1 = (if fr = true then n + 1 else a.1) ∧ σ.2.2.1 = (pl || fr)) (fun run => ?_) ?_
  · skip
    refine ARun.cond rfl (fun y => ?_) (fun y => ?_)
    · skip
      subst y
      refine ARun.seq (ARun.region ?_); refine zzm ?_
      refine y_op rfl (q_nil rfl rfl) ?_
      first
        | refine y_op rfl (q_fldP rfl rfl rfl (by decide)) ?_
        | refine y_op rfl (q_fldS rfl rfl rfl (by decide)) ?_
      refine y_new rfl (Zac rfl rfl rfl rfl hcv.rd rfl (Nat.le_of_ble_eq_true rfl) rfl) ?_
      have hcv := hcv.setR (rd' := rdS s j2 n (w || a.2.2.1) true) n1 n2
      refine AOps.hp (H' := G2.set k (rdS s j2 n (w || a.2.2.1) true)) rfl ?_
      generalize G2.set k (rdS s j2 n (w || a.2.2.1) true) = G2 at *
      refine AOps.nil (ARun.seq (ARun.region ?_)); refine zzm ?_
      refine y_op rfl (q_nil rfl rfl) ?_
      first
        | refine y_op rfl (q_fldP rfl rfl rfl (by decide)) ?_
        | refine y_op rfl (q_fldS rfl rfl rfl (by decide)) ?_
      refine y_op rfl (Zaa rfl rfl rfl hcv.rd rfl) ?_
      refine y_op rfl (OpQ.cast (d' := .int .i64 ((n + 1 : Nat) : Int)) (q_int rfl rfl rfl) (congrArg (D.int .i64) (by show IntKind.i64.wrap _ = _; rw [IntWalk.i64_in _ (by omega)]; omega))) ?_
      refine y_op rfl (q_nil rfl rfl) ?_
      first
        | refine y_op rfl (q_fldP rfl rfl rfl (by decide)) ?_
        | refine y_op rfl (q_fldS rfl rfl rfl (by decide)) ?_
      refine y_new rfl (Zac rfl rfl rfl rfl hcv.rd rfl (Nat.le_of_ble_eq_true rfl) rfl) ?_
      have hcv := hcv.setR (rd' := rdS s j2 (n + 1) (w || a.2.2.1) true) n1 n2
      refine AOps.hp (H' := G2.set k (rdS s j2 (n + 1) (w || a.2.2.1) true)) rfl ?_
      generalize G2.set k (rdS s j2 (n + 1) (w || a.2.2.1) true) = G2 at *
      refine AOps.nil (ARun.region ?_); refine zzm ?_
      refine y_op rfl (q_nil rfl rfl) ?_
      first
        | refine y_op rfl (q_fldP rfl rfl rfl (by decide)) ?_
        | refine y_op rfl (q_fldS rfl rfl rfl (by decide)) ?_
      refine y_op rfl (Zaa rfl rfl rfl hcv.rd rfl) ?_
      refine zza ?_; refine AOps.nil ?_
      exact ARun.ag (run ((n + 1, n + 1, true, G2)) (⟨hcv, rfl, rfl, (by rw [Bool.or_true])⟩))
    subst y
    refine ARun.skip ?_
    exact ARun.ag (run ((n, a.1, pl, G2)) (⟨hcv, rfl, rfl, (by rw [Bool.or_false])⟩))
  rintro ⟨cn, ar, pq, G3⟩ hj
  try dsimp only at hj ⊢
  clear hcv
  obtain ⟨hcv, c1, c2, c3⟩ := hj
  rw [← c1, ← c2, ← c3] at hR
  have har : ar ≤ 100000 := by rw [c2]; split <;> omega
  refine ARun.seq (ARun.seq (ARun.region ?_)); refine zzm ?_
  refine y_op rfl (q_nil rfl rfl) ?_
  first
    | refine y_op rfl (q_fldP rfl rfl rfl (by decide)) ?_
    | refine y_op rfl (q_fldS rfl rfl rfl (by decide)) ?_
  refine y_op rfl (Zaa rfl rfl rfl hcv.rd rfl) ?_
  refine zzm ?_
  apply AOps.andJ 120 (fun sj6 => [(120, .any), (121, .any), (122, .any), (123, .any), (124, .any), (125, .bool sj6)]) rfl
  · intro hj6 run6
    try replace hj6 := of_decide_eq_true hj6
    refine zzm ?_
    refine y_op rfl (q_nil rfl rfl) ?_
    first
      | refine y_op rfl (q_fldP rfl rfl rfl (by decide)) ?_
      | refine y_op rfl (q_fldS rfl rfl rfl (by decide)) ?_
    refine y_op rfl (Zaa rfl rfl rfl hcv.rd rfl) ?_
    refine zzp ?_
    exact AOps.ag run6
  · intro hj6 run6
    try replace hj6 := of_decide_eq_false hj6
    refine zzk ?_; refine zzk ?_; refine zzk ?_; refine zzk ?_; refine zzp ?_
    exact AOps.ag run6
  refine AOps.nil ?_
  refine ARun.cond rfl (fun y => ?_) (fun y => ?_)
  · skip
    rw [y, cond_true] at hR
    subst hR
    refine ARun.region ?_; refine zzm ?_
    refine Zad rfl rfl rfl rfl (HC.g (hc_bad G3 (i - 1))) (by rintro _ _ ⟨h, _⟩; cases h) (fun q H' hq => by obtain ⟨hq, rfl⟩ := hq; injection hq with hq; subst hq; exact ⟨_, _, .same _, hcv.kp, rfl⟩)
  rw [y, cond_false] at hR
  refine ARun.skip (ARun.seq (ARun.seq (ARun.region ?_))); refine zzm ?_
  first
    | refine y_op rfl (q_fldP rfl rfl rfl (by decide)) ?_
    | refine y_op rfl (q_fldS rfl rfl rfl (by decide)) ?_
  refine y_new rfl (Zac rfl rfl rfl rfl hcv.pc rfl (Nat.le_of_ble_eq_true rfl) rfl) ?_
  have hcv := hcv.setP (p' := pO (ar : Int) (d.1 : Int) (ln : Int) (c : Int) S) n4 n3 n2
  refine AOps.hp (H' := G3.set x2 (pO (ar : Int) (d.1 : Int) (ln : Int) (c : Int) S)) rfl ?_
  generalize G3.set x2 (pO (ar : Int) (d.1 : Int) (ln : Int) (c : Int) S) = G3 at *
  refine AOps.nil (ARun.seq (ARun.region ?_))
  first
    | refine y_op rfl (q_fldP rfl rfl rfl (by decide)) ?_
    | refine y_op rfl (q_fldS rfl rfl rfl (by decide)) ?_
  refine y_op rfl (Zaa rfl rfl rfl hcv.pc rfl) ?_
  refine y_op rfl (OpQ.cast (d' := .bool (decide (10000 < d.1))) (q_int rfl rfl rfl) (congrArg D.bool (decide_eq_decide.2 (by omega)))) ?_
  refine zzm ?_
  apply AOps.orJ 133 (fun sj7 => [(133, .any), (134, .any), (135, .any), (136, .any), (137, .bool sj7)]) rfl
  · intro hj7 run7
    try replace hj7 := of_decide_eq_true hj7
    refine zzk ?_; refine zzk ?_; refine zzk ?_; refine zzp ?_
    exact AOps.ag run7
  · intro hj7 run7
    try replace hj7 := of_decide_eq_false hj7
    first
      | refine y_op rfl (q_fldP rfl rfl rfl (by decide)) ?_
      | refine y_op rfl (q_fldS rfl rfl rfl (by decide)) ?_
    refine y_op rfl (Zaa rfl rfl rfl hcv.pc rfl) ?_
    refine y_op rfl (OpQ.cast (d' := .bool (decide (64 < ar))) (q_int rfl rfl rfl) (congrArg D.bool (decide_eq_decide.2 (by omega)))) ?_
    refine zzp ?_
    exact AOps.ag run7
  refine AOps.nil ?_
  refine ARun.cond rfl (fun v => ?_) (fun v => ?_)
  · skip
    rw [v, cond_true] at hR
    subst hR
    refine ARun.region ?_; refine zzm ?_
    refine y_op rfl (Za8 rfl rfl rfl rfl rfl) ?_
    refine y_op rfl (Zfb rfl rfl rfl) ?_
    exact ZfY rfl rfl ⟨_, _, .same _, hcv.kp, rfl⟩
  rw [v, cond_false] at hR
  subst hR
  refine ARun.skip (ARun.seq (ARun.region ?_))
  refine y_op rfl (Zaf rfl rfl rfl hcv.pc rfl rfl) ?_
  refine y_new rfl (Zaw rfl rfl rfl rfl rfl rfl hcv.res rfl (Nat.le_of_ble_eq_true rfl) rfl) ?_
  refine AOps.nil ?_
  refine ARun.ret ?_
  refine ⟨_, _, _, ResR.cellA rfl rfl rfl (heap_set_get hcv.res) rfl rfl .nil, .cons (.same _) .nil, hcv.kp.put (by omega), rfl, ?_⟩
  show (G3.set x1 _)[k]? = _
  rw [List.getElem?_set_ne n1, hcv.rd, ← hl, drop_back (by omega)]
end Go.V
set_option maxHeartbeats 8000000
set_option maxRecDepth 100000
set_option synthInstance.maxSize 100000
set_option synthInstance.maxHeartbeats 2000000
namespace Go.V
open Go.RowKit Go.Proofs
theorem bare_pO (c : Nat) : pcA (bareP ByteArray.empty 0 0 0 c) = .agg [.str ByteArray.empty, .int .i64 0, .int .i64 0, .int .i64 0, .int .u8 (c : Int), .int .u64 0, .int .u64 0, .int .u64 0, .int .u64 0] := bare_cells _ _ _ _ _
theorem runL_len (f : Nat → Bool) (r : List Nat) : (runL f r).2.length ≤ r.length := by
  have := congrArg List.length (runL_app f r)
  rw [List.length_append] at this; omega
theorem runL_drop {s : ByteArray} {f : Nat → Bool} {i : Nat} (hi : i ≤ s.size) : (sby s).drop (s.size - (runL f ((sby s).drop i)).2.length) = (runL f ((sby s).drop i)).2 := by
  have h := (suf_drop (l := sby s) (i := i) (by rw [sby_len]; exact hi) (runL_app f ((sby s).drop i)).symm).1
  rwa [sby_len] at h
theorem Zgt (H : Heap) (k : Nat) (s : ByteArray) (i n : Nat) (w pl : Bool) (hk : H[k]? = some (rdS s i n w pl)) (hi : i < s.size) (hmax : s.size ≤ 2000) (hn : n ≤ 1000) :
    HC Cg Zcp H [.ptr k 0] (fun x H' => Kp H H' k ∧ match pieceL n w pl ((sby s).drop i) with
      | .err e q => x = .pan (wrongP e (s.size - q.length))
      | .ok p q c' w' pl' => x = .ret (pcA p) ∧ H'[k]? = some (rdS s (s.size - q.length) c' w' pl')) := by
  have hl := sby_len s
  have hklt := (List.getElem?_eq_some_iff.1 hk).1
  obtain ⟨R, hR⟩ : ∃ R, R = pieceL n w pl ((sby s).drop i) := ⟨_, rfl⟩
  rw [← hR]
  have e0 := drop_getD (sby s) i 0 (by omega)
  obtain ⟨c, hc⟩ : ∃ c, c = (sby s).getD i 0 := ⟨_, rfl⟩
  rw [← hc] at e0
  rw [e0, pieceL, ← e0] at hR
  refine HC.run ZaZ Zb4 rfl Zb5 (rs := [.cell 2 46]) (by rw [Zb6]) (by simp only [List.length_cons, List.length_nil, Nat.reduceAdd, Nat.reduceSub, List.replicate_succ, List.replicate_zero, List.cons_append, List.nil_append]; exact rfl) ?_
  refine ARun.seq (ARun.region ?_)
  refine y_new rfl (Zbk (ap := apZ H rfl) rfl rfl rfl rfl) ?_
  obtain ⟨x1, hx1⟩ : ∃ x1, x1 = H.length := ⟨_, rfl⟩
  have hkp : Kp H (H ++ [pO 0 0 0 0 sempty]) k := Kp.app
  have hrd : (H ++ [pO 0 0 0 0 sempty])[k]? = some (rdS s i n w pl) := get_app hk
  have hre : (H ++ [pO 0 0 0 0 sempty])[x1]? = some (pO 0 0 0 0 sempty) := get_last hx1
  rw [← hx1]
  have n1 : x1 ≠ k := by omega
  generalize H ++ [pO 0 0 0 0 sempty] = G at *
  refine AOps.nil (ARun.seq (ARun.block (ARun.seq ?_)))
  refine ARun.drawnP 13 (fun _ => False) mixC rfl rfl (by kernel_rfl) (fun _ _ h => h.elim) ?_
  refine .op rfl (q_move rfl) ?_
  refine .op rfl (q_nil rfl rfl) ?_
  refine .op rfl (q_fldP rfl rfl rfl (by decide)) ?_
  refine .op rfl (q_fldP rfl rfl rfl (by decide)) ?_
  refine .op rfl (Zaa rfl rfl rfl hrd rfl) ?_
  refine .op rfl (q_move rfl) ?_
  refine .op rfl (q_nil rfl rfl) ?_
  refine .op rfl (q_fldP rfl rfl rfl (by decide)) ?_
  refine .op rfl (q_fldP rfl rfl rfl (by decide)) ?_
  refine .op rfl (Zaa rfl rfl rfl hrd rfl) ?_
  refine .op rfl (Zaq rfl rfl rfl (by omega) (by omega) (show _ = (c : Int) by rw [hc]; exact sby_get _)) ?_
  refine .op rfl (q_call rfl rfl (PC.g (ZdY c))) ?_
  refine .op rfl (ZeZ rfl) ?_
  refine .nil (fun hG => ?_)
  refine AOps.nil ?_
  refine ARun.cond rfl (fun y => ?_) (fun y => ?_)
  · skip
    rw [y, cond_true] at hR
    subst hR
    refine ARun.seq (ARun.region ?_); refine zzm ?_
    refine Zad rfl rfl rfl rfl (HC.g (hc_run G k s i n w pl hrd (by omega) (by omega) ZcB swhite ZdY)) ?_ (by rintro _ _ ⟨h, _⟩; cases h)
    rintro q1 H1 ⟨f1, rfl⟩
    injection f1 with f1
    subst f1
    have hre2 : (G.set k (rdS s (s.size - (runL swhite ((sby s).drop i)).2.length) n w pl))[x1]? = some (pO 0 0 0 0 sempty) := by rw [List.getElem?_set_ne (fun e => n1 e.symm)]; exact hre
    refine AOps.nil (ARun.seq (ARun.region ?_))
    refine y_op rfl (Za8 rfl rfl rfl rfl rfl) ?_
    refine y_new rfl (Zaw rfl rfl rfl rfl rfl rfl hre2 rfl (Nat.le_of_ble_eq_true rfl) rfl) ?_
    refine AOps.nil ?_
    refine ARun.ret ?_
    refine ⟨_, _, _, ResR.cellA rfl rfl rfl (heap_set_get hre2) rfl rfl .nil, .cons (.same _) .nil, (hkp.trans Kp.set).put (by omega), congrArg Out.ret (bare_pO 32).symm, ?_⟩
    show (List.set _ x1 _)[k]? = _
    rw [List.getElem?_set_ne n1, heap_set_get hrd]
  rw [y, cond_false] at hR
  refine ARun.seq (ARun.region ?_); refine zzm ?_
  refine y_op rfl (q_nil rfl rfl) ?_
  refine y_op rfl (q_fldP rfl rfl rfl (by decide)) ?_
  refine y_op rfl (Zdi rfl rfl rfl (HC.g (hc_is G k s i n 37 w pl hrd (by omega)))) ?_
  refine zza ?_; refine AOps.nil ?_
  have hh : hdIs ((sby s).drop i) 37 = decide (c = 37) := by rw [e0]; rfl
  rw [hh]
  refine ARun.ite rfl (fun z => ?_) (fun z => ?_)
  · skip
    rw [if_pos z] at hR
    refine ARun.seq (ARun.region ?_); refine zzm ?_
    refine y_op rfl (q_nil rfl rfl) ?_
    refine y_op rfl (q_fldP rfl rfl rfl (by decide)) ?_
    refine y_op rfl (q_fldP rfl rfl rfl (by decide)) ?_
    refine y_op rfl (Zaa rfl rfl rfl hrd rfl) ?_
    refine y_op rfl (OpQ.cast (d' := .int .i64 ((i + 1 : Nat) : Int)) (q_int rfl rfl rfl) (congrArg (D.int .i64) (by show IntKind.i64.wrap _ = _; rw [IntWalk.i64_in _ (by omega)]; omega))) ?_
    refine y_op rfl (q_nil rfl rfl) ?_
    refine y_op rfl (q_fldP rfl rfl rfl (by decide)) ?_
    refine y_op rfl (q_fldP rfl rfl rfl (by decide)) ?_
    refine y_new rfl (Zac rfl rfl rfl rfl hrd rfl (Nat.le_of_ble_eq_true rfl) rfl) ?_
    have hkp := hkp.trans (Kp.set (x := rdS s (i + 1) n w pl))
    have hre : (G.set k (rdS s (i + 1) n w pl))[x1]? = some (pO 0 0 0 0 sempty) := by rw [List.getElem?_set_ne (fun e => n1 e.symm)]; exact hre
    have hrd : (G.set k (rdS s (i + 1) n w pl))[k]? = some (rdS s (i + 1) n w pl) := heap_set_get hrd
    refine AOps.hp (H' := G.set k (rdS s (i + 1) n w pl)) rfl ?_
    generalize G.set k (rdS s (i + 1) n w pl) = G at *
    refine AOps.nil (ARun.seq (ARun.seq (ARun.region ?_))); refine zzm ?_
    refine y_op rfl (q_nil rfl rfl) ?_
    refine y_op rfl (q_fldP rfl rfl rfl (by decide)) ?_
    refine y_op rfl (Zdi rfl rfl rfl (HC.g (hc_is G k s (i + 1) n 37 w pl hrd (by omega)))) ?_
    refine AOps.nil ?_
    refine ARun.cond rfl (fun v => ?_) (fun v => ?_)
    · skip
      have hp := hdIs_len v
      rw [List.length_drop, hl] at hp
      rw [v, cond_true] at hR
      subst hR
      refine ARun.seq (ARun.region ?_); refine zzm ?_
      refine y_op rfl (q_nil rfl rfl) ?_
      refine y_op rfl (q_fldP rfl rfl rfl (by decide)) ?_
      refine y_op rfl (q_fldP rfl rfl rfl (by decide)) ?_
      refine y_op rfl (Zaa rfl rfl rfl hrd rfl) ?_
      refine y_op rfl (OpQ.cast (d' := .int .i64 ((i + 1 + 1 : Nat) : Int)) (q_int rfl rfl rfl) (congrArg (D.int .i64) (by show IntKind.i64.wrap _ = _; rw [IntWalk.i64_in _ (by omega)]; omega))) ?_
      refine y_op rfl (q_nil rfl rfl) ?_
      refine y_op rfl (q_fldP rfl rfl rfl (by decide)) ?_
      refine y_op rfl (q_fldP rfl rfl rfl (by decide)) ?_
      refine y_new rfl (Zac rfl rfl rfl rfl hrd rfl (Nat.le_of_ble_eq_true rfl) rfl) ?_
      have hkp := hkp.trans (Kp.set (x := rdS s (i + 1 + 1) n w pl))
      have hre : (G.set k (rdS s (i + 1 + 1) n w pl))[x1]? = some (pO 0 0 0 0 sempty) := by rw [List.getElem?_set_ne (fun e => n1 e.symm)]; exact hre
      have hrd : (G.set k (rdS s (i + 1 + 1) n w pl))[k]? = some (rdS s (i + 1 + 1) n w pl) := heap_set_get hrd
      refine AOps.hp (H' := G.set k (rdS s (i + 1 + 1) n w pl)) rfl ?_
      generalize G.set k (rdS s (i + 1 + 1) n w pl) = G at *
      refine AOps.nil (ARun.seq (ARun.region ?_))
      refine y_op rfl (Za8 rfl rfl rfl rfl rfl) ?_
      refine y_new rfl (Zaw rfl rfl rfl rfl rfl rfl hre rfl (Nat.le_of_ble_eq_true rfl) rfl) ?_
      refine AOps.nil ?_
      refine ARun.ret ?_
      refine ⟨_, _, _, ResR.cellA rfl rfl rfl (heap_set_get hre) rfl rfl .nil, .cons (.same _) .nil, hkp.put (by omega), congrArg Out.ret (bare_pO 37).symm, ?_⟩
      show (List.set _ x1 _)[k]? = _
      rw [List.getElem?_set_ne n1, hrd, drop_drop1, ← hl, drop_back (by omega)]
    rw [v, cond_false] at hR
    have hcv := Ze9 G k s (i + 1) n w pl hrd (by omega) (by omega) hmax hn
    generalize convL n w pl ((sby s).drop (i + 1)) = X at *
    cases X with
    | bad =>
      subst hR
      refine ARun.skip (ARun.seq (ARun.region ?_)); refine zzm ?_
      refine Zad rfl rfl rfl rfl hcv (by rintro _ _ ⟨_, h⟩; cases h) (fun q H' hq => by obtain ⟨hq1, hq⟩ := hq; injection hq with hq; subst hq; exact ⟨_, _, .same _, hkp.trans hq1, by show Out.pan _ = Out.pan _; rw [← hl, drop_back (by omega)]; rfl⟩)
    | lim =>
      subst hR
      refine ARun.skip (ARun.seq (ARun.region ?_)); refine zzm ?_
      refine Zad rfl rfl rfl rfl hcv (by rintro _ _ ⟨_, h⟩; cases h) (fun q H' hq => by obtain ⟨hq1, hq⟩ := hq; injection hq with hq; subst hq; exact ⟨_, _, .same _, hkp.trans hq1, by show Out.pan _ = Out.pan _; rw [← hl, drop_back (by omega)]; rfl⟩)
    | ok p q c' w' pl' =>
      subst hR
      refine ARun.skip (ARun.seq (ARun.region ?_)); refine zzm ?_
      refine Zad rfl rfl rfl rfl hcv ?_ (by rintro _ _ ⟨_, h, _⟩; cases h)
      rintro q1 H1 ⟨f0, f1, f2⟩
      injection f1 with f1
      subst f1
      have hre2 : H1[x1]? = some (pO 0 0 0 0 sempty) := (f0.2 x1 (List.getElem?_eq_some_iff.1 hre).1 n1).trans hre
      refine y_new rfl (Zaw rfl rfl rfl rfl rfl rfl hre2 rfl (Nat.le_of_ble_eq_true rfl) rfl) ?_
      refine AOps.nil ?_
      refine ARun.ret ?_
      refine ⟨_, _, _, ResR.cellA rfl rfl rfl (heap_set_get hre2) rfl rfl .nil, .cons (.same _) .nil, (hkp.trans f0).put (by omega), rfl, ?_⟩
      show (List.set _ x1 _)[k]? = _
      rw [List.getElem?_set_ne n1, f2]
  rw [if_neg z] at hR
  refine ARun.skip (ARun.inBlock (ARun.seq (ARun.region ?_))); refine zzm ?_
  refine Zad rfl rfl rfl rfl (HC.g (hc_run G k s i n w pl hrd (by omega) (by omega) ZcC splain ZeX)) ?_ (by rintro _ _ ⟨h, _⟩; cases h)
  rintro q1 H1 ⟨f1, rfl⟩
  injection f1 with f1
  subst f1
  have hrl := runL_len splain ((sby s).drop i)
  have hrd2 := runL_drop (s := s) (f := splain) (i := i) (by omega)
  rw [List.length_drop, hl] at hrl
  have hkp := hkp.trans (Kp.set (x := rdS s (s.size - (runL splain ((sby s).drop i)).2.length) n w pl))
  have hre : (G.set k (rdS s (s.size - (runL splain ((sby s).drop i)).2.length) n w pl))[x1]? = some (pO 0 0 0 0 sempty) := by rw [List.getElem?_set_ne (fun e => n1 e.symm)]; exact hre
  have hrd := heap_set_get (y := rdS s (s.size - (runL splain ((sby s).drop i)).2.length) n w pl) hrd
  generalize G.set k (rdS s (s.size - (runL splain ((sby s).drop i)).2.length) n w pl) = G at *
  generalize runL splain ((sby s).drop i) = V at *
  have hI := HC.g (hc_is G k s (s.size - V.2.length) n 0 w pl hrd (by omega))
  rw [hrd2] at hI
  refine y_op rfl (Za8 rfl rfl rfl rfl rfl) ?_
  refine ZbI rfl rfl rfl rfl rfl rfl rfl rfl rfl rfl rfl ?_
  refine AOps.nil (ARun.seq (ARun.seq (ARun.region ?_))); refine zzm ?_
  refine y_op rfl (q_nil rfl rfl) ?_
  refine y_op rfl (q_fldP rfl rfl rfl (by decide)) ?_
  refine y_op rfl (Zdi rfl rfl rfl hI) ?_
  refine AOps.nil ?_
  refine ARun.cond rfl (fun v => ?_) (fun v => ?_)
  · skip
    rw [v, cond_true] at hR
    subst hR
    refine ARun.region ?_; refine zzm ?_
    refine y_op rfl (q_nil rfl rfl) ?_
    refine y_op rfl (q_fldP rfl rfl rfl (by decide)) ?_
    refine y_op rfl (q_fldP rfl rfl rfl (by decide)) ?_
    refine y_op rfl (Zaa rfl rfl rfl hrd rfl) ?_
    refine Zad rfl rfl rfl rfl (HC.g (hc_bad G (s.size - V.2.length))) (by rintro _ _ ⟨h, _⟩; cases h) (fun q H' hq => by obtain ⟨hq, rfl⟩ := hq; injection hq with hq; subst hq; exact ⟨_, _, .same _, hkp, rfl⟩)
  rw [v, cond_false] at hR
  subst hR
  refine ARun.skip (ARun.seq (ARun.region ?_)); refine zzL ?_
  refine y_new rfl (Zaw rfl rfl rfl rfl rfl rfl hre rfl (Nat.le_of_ble_eq_true rfl) rfl) ?_
  refine AOps.nil ?_
  refine ARun.ret ?_
  refine ⟨_, _, _, ResR.cellA rfl rfl rfl (heap_set_get hre) rfl rfl .nil, .cons (.same _) .nil, hkp.put (by omega), congrArg Out.ret (bare_cells (bytesOf V.1) 0 0 0 0).symm, ?_⟩
  show (List.set _ x1 _)[k]? = _
  rw [List.getElem?_set_ne n1, hrd]
end Go.V
set_option maxHeartbeats 8000000
set_option maxRecDepth 100000
set_option synthInstance.maxSize 100000
set_option synthInstance.maxHeartbeats 2000000
namespace Go.V
open Go.RowKit Go.Proofs
abbrev errO (e : Int) : Option AObj := some ⟨[.int .i64 e], Zfw, 1, true, none⟩
abbrev intO (n : Int) : Option AObj := some ⟨[.int .i64 n], t_int, 1, true, none⟩
theorem dct_ret (H : Heap) (i j : Nat) : DC Cg Zbi H [.ptr i 0, .ptr j 0] .returning (fun m' H' => m' = .returning ∧ H' = H) := by
  refine DC.of_run1 Za9 ZbN rfl ZbO (by rw [ZbP]) (fun _ h => by cases h) (by simp only [List.length_cons, List.length_nil, Nat.reduceAdd, Nat.reduceSub, List.replicate_succ, List.replicate_zero, List.cons_append, List.nil_append, recD, envPut, List.set_cons_succ, List.set_cons_zero]; exact rfl) ?_
  refine ARun.block (ARun.seq (ARun.region ?_))
  refine y_op rfl (Zf1 (by kernel_rfl) rfl) ?_
  refine AOps.nil ?_
  refine ARun.condT rfl ?_
  refine ARun.region ?_; refine zza ?_; refine AOps.nil (ARun.inBlock ?_)
  refine ARun.nil ?_
  exact ⟨rfl, rfl, rfl⟩
theorem dct_wrong (H : Heap) (i j : Nat) (e0 n0 e : Int) (n : Nat) (h : H[i]? = some (errO e0)) (h2 : H[j]? = some (intO n0)) (hij : i ≠ j) : DC Cg Zbi H [.ptr i 0, .ptr j 0] (.panicking (wrongP e n)) (fun m' H' => m' = .recovered (wrongP e n) ∧ H' = ((H.set i (errO e)).set j (intO (n : Int)) : Heap)) := by
  have h3 : (H.set i (errO e))[j]? = some (intO n0) := by rw [List.getElem?_set_ne hij]; exact h2
  refine DC.of_run1 Za9 ZbN rfl ZbO (by rw [ZbP]) (fun _ h => by cases h) (by simp only [List.length_cons, List.length_nil, Nat.reduceAdd, Nat.reduceSub, List.replicate_succ, List.replicate_zero, List.cons_append, List.nil_append, recD, envPut, List.set_cons_succ, List.set_cons_zero]; exact rfl) ?_
  refine ARun.block (ARun.seq (ARun.region ?_))
  refine y_op rfl (q_ifEq (by kernel_rfl) rfl) ?_
  refine AOps.nil ?_
  refine ARun.condF rfl ?_
  refine ARun.seq (ARun.region ?_)
  refine y_op rfl (ZfL rfl rfl rfl) ?_
  refine zze ?_; refine zze ?_; refine AOps.nil ?_
  refine ARun.condT rfl ?_
  refine ARun.seq (ARun.region ?_)
  refine ZbI rfl rfl rfl rfl rfl rfl rfl rfl rfl rfl rfl ?_
  refine AOps.nil ?_
  refine ARun.drawnG (n := 8) (fun S : Nat → Bool => bif S 7 then H.set i (errO e) else H) [] (fun _ => False) (sk := []) mixC rfl rfl (by kernel_rfl) rfl (by kernel_rfl) rfl (fun _ _ _ h => h.elim) ?_
  refine DChG.op rfl (fun _ => q_move rfl) (fun _ => rfl) rfl rfl ?_
  refine DChG.op rfl (fun _ => q_move rfl) (fun _ => rfl) rfl rfl ?_
  first
    | refine DChG.op rfl (fun _ => q_fldP rfl rfl rfl (by decide)) (fun _ => rfl) rfl rfl ?_
    | refine DChG.op rfl (fun _ => q_fldS rfl rfl rfl (by decide)) (fun _ => rfl) rfl rfl ?_
  first
    | refine DChG.opC rfl (fun S hn hd hc => OpQ.pre (H1 := bif false then H.set i (errO e) else H) (by simp only [(clF hc hn (by kernel_rfl) : S 7 = false)]) (Zaa rfl rfl rfl rfl rfl)) (fun _ => rfl) rfl rfl ?_
    | refine DChG.opC rfl (fun S hn hd hc => OpQ.pre (H1 := bif false then H.set i (errO e) else H) (by simp only [(clF hc hn (by kernel_rfl) : S 7 = false)]) (q_load rfl rfl rfl rfl)) (fun _ => rfl) rfl rfl ?_
    | refine DChG.opC rfl (fun S hn hd hc => OpQ.pre (H1 := bif false then H.set i (errO e) else H) (by simp only [(clF hc hn (by kernel_rfl) : S 7 = false)]) (q_load rfl rfl rfl (lim_load (by omega)))) (fun _ => rfl) rfl rfl ?_
    | refine DChG.opC rfl (fun S hn hd hc => OpQ.pre (H1 := bif false then H.set i (errO e) else H) (by simp only [(clF hc hn (by kernel_rfl) : S 7 = false)]) (q_load rfl rfl rfl (nts_load (by omega)))) (fun _ => rfl) rfl rfl ?_
    | refine DChG.opC rfl (fun S hn hd hc => OpQ.pre (H1 := bif false then H.set i (errO e) else H) (by simp only [(clF hc hn (by kernel_rfl) : S 7 = false)]) (Zaa rfl rfl rfl rfl (nts_get (by omega)))) (fun _ => rfl) rfl rfl ?_
    | refine DChG.opC rfl (fun S hn hd hc => OpQ.pre (H1 := bif false then H.set i (errO e) else H) (by simp only [(clF hc hn (by kernel_rfl) : S 7 = false)]) (Zaa rfl rfl rfl rfl (win_get (by assumption) (by omega)))) (fun _ => rfl) rfl rfl ?_
  first
    | refine DChG.op rfl (fun _ => q_fldP rfl rfl rfl (by decide)) (fun _ => rfl) rfl rfl ?_
    | refine DChG.op rfl (fun _ => q_fldS rfl rfl rfl (by decide)) (fun _ => rfl) rfl rfl ?_
  first
    | refine DChG.op rfl (fun _ => Zaa rfl rfl rfl rfl rfl) (fun _ => rfl) rfl rfl ?_
    | refine DChG.op rfl (fun _ => q_load rfl rfl rfl rfl) (fun _ => rfl) rfl rfl ?_
    | refine DChG.op rfl (fun _ => q_load rfl rfl rfl (lim_load (by omega))) (fun _ => rfl) rfl rfl ?_
    | refine DChG.op rfl (fun _ => q_load rfl rfl rfl (nts_load (by omega))) (fun _ => rfl) rfl rfl ?_
    | refine DChG.op rfl (fun _ => Zaa rfl rfl rfl rfl (nts_get (by omega))) (fun _ => rfl) rfl rfl ?_
    | refine DChG.op rfl (fun _ => Zaa rfl rfl rfl rfl (win_get (by assumption) (by omega))) (fun _ => rfl) rfl rfl ?_
  refine DChG.op rfl (fun _ => q_nil rfl rfl) (fun _ => rfl) rfl rfl ?_
  refine DChG.stC rfl (fun S hn hd hc => OpN.both (H1 := bif false then H.set i (errO e) else H) (H3 := bif true then H.set i (errO e) else H) (by simp only [hn]) rfl (Zac rfl rfl rfl rfl h rfl (Nat.le_of_ble_eq_true rfl) rfl)) rfl rfl ?_
  refine .nil (fun hG => AOps.fin (n := List.length (H.set i (errO e))) (as' := []) (H' := H.set i (errO e)) rfl rfl (List.append_nil _) ?_)
  refine y_op rfl (q_nil rfl rfl) ?_
  refine y_new rfl (Zac rfl rfl rfl rfl h3 rfl (Nat.le_of_ble_eq_true rfl) rfl) ?_
  refine AOps.nil (ARun.inBlock ?_)
  refine ARun.nil ?_
  exact ⟨rfl, rfl, rfl⟩
def OutS (H : Heap) (d : D) (out : List Pc) : Prop := (out = [] ∧ d = .nilsl) ∨ (out ≠ [] ∧ ∃ id, 3 ≤ id ∧ d = .row id out.length ∧ H[id]? = some (some ⟨pcs out, Zab, 9, true, none⟩))
def OutD (H : Heap) (d : D) (out : List Pc) : Prop := (out = [] ∧ d = .nilsl) ∨ (∃ id o, d = .row id out.length ∧ H[id]? = some (some o) ∧ o.cells = pcs out)
theorem pures_pcs : ∀ l : List Pc, D.pure.pures (pcs l) = true
  | [] => rfl
  | p :: l => by
    show D.pure.pures (p.cells ++ pcs l) = true
    exact pures_pcs l
theorem pcs_length : ∀ l : List Pc, (pcs l).length = l.length * 9
  | [] => rfl
  | p :: l => by
    show (p.cells ++ pcs l).length = _
    rw [List.length_append, pcs_length l, List.length_cons]
    show 9 + l.length * 9 = (l.length + 1) * 9
    omega
theorem pcs_snoc (l : List Pc) (p : Pc) : pcs l ++ p.cells = pcs (l ++ [p]) := by
  unfold pcs
  rw [List.flatMap_append]; simp
theorem OutS.d {H : Heap} {d : D} {out : List Pc} (h : OutS H d out) : OutD H d out := h.imp id fun ⟨_, id, _, h2, h3⟩ => ⟨id, _, h2, h3, rfl⟩
theorem OutD.fz {H : Heap} {d : D} {out : List Pc} (h : OutD H d out) : ∃ ids, Fz H d (slP out) ids := by
  rcases h with ⟨rfl, rfl⟩ | ⟨id, o, rfl, h1, h2⟩
  · exact ⟨[], .nil⟩
  exact ⟨[id], by have := Fz.row (n := out.length) h1 (by rw [h2]; exact pures_pcs out); rw [h2] at this; exact this⟩
section
variable {env : List D} {H : Heap} {dst : Option Tmp} {x y : Operand} {ty : TypeId} {pos : String} {aft : Array Edge} {gd : Option (Nat × Bool)} {d : D} {out : List Pc} {p : Pc}
variable {Q : Post} {k : List Item} {df : List ADef} {ops : Array Oper} {rest : List Oper}
theorem Zgu (hx : evO Cg env x = some d) (ho : OutS H d out) : OpQ Cg ⟨dst, .call ⟨.builtin .len, #[x], #[Zag]⟩, ty, pos, aft, gd⟩ env H (.int .i64 (out.length : Int)) := by
  rcases ho with ⟨rfl, rfl⟩ | ⟨_, id, _, rfl, h⟩
  · exact Ze1 hx rfl
  exact Zen hx h rfl
theorem Zgv {E : D → List D} [hput : ∀ d, Put env dst d (E d)] (hg : gOk ops.toList env gd = some true) (hx : evO Cg env x = some d) (ho : OutS H d out) (hy : evO Cg env y = some (.sl 1 p.cells)) (hl : out.length ≤ 1000) (h3 : 3 ≤ H.length)
    (hk : ∀ d' H', OutS H' d' (out ++ [p]) → (∀ j, j < 3 → H'[j]? = H[j]?) → H.length ≤ H'.length → AOps Cg Q ops rest k (E d') H' df) : AOps Cg Q ops (⟨dst, .call ⟨.builtin .append, #[x, y], #[Zag, Zag]⟩, ty, pos, aft, gd⟩ :: rest) k env H df := by
  obtain ⟨cs, hcs⟩ : ∃ cs, cs = p.cells := ⟨_, rfl⟩
  have h9 : cs.length = 9 := by rw [hcs]; rfl
  have hsn := pcs_snoc out p
  rw [← hcs] at hy hsn
  obtain ⟨P1, hP1⟩ : ∃ P1, P1 = pcs (out ++ [p]) := ⟨_, rfl⟩
  rw [← hP1] at hsn
  have key : OpH Cg ⟨dst, .call ⟨.builtin .append, #[x, y], #[Zag, Zag]⟩, ty, pos, aft, gd⟩ env H (fun d' H' => ((∃ id, 3 ≤ id ∧ d' = .row id (out.length + 1) ∧ H'[id]? = some (some (AObj.mk P1 Zab 9 true none)))) ∧ (∀ j, j < 3 → H'[j]? = H[j]?) ∧ H.length ≤ H'.length) (fun _ _ => False) := by
    rcases ho with ⟨rfl, rfl⟩ | ⟨hne, id, hid, rfl, h⟩
    · have hP : cs = P1 := hsn
      clear hP1
      subst hP
      refine OpH.mono ?_ (fun _ _ h => h) (Zc2 (C := Cg) (m := 1) (news := cs) (e := Zab) rfl rfl (by decide) rfl rfl rfl hx hy rfl (by rw [h9]; rfl) (by decide) (by decide) (by rw [maxLen_eq]; decide))
      rintro d' H' ⟨rfl, rfl⟩
      have hg2 : (H ++ [some (AObj.mk cs Zab 9 true none)])[H.length]? = some (some (AObj.mk cs Zab 9 true none)) := get_last rfl
      exact ⟨⟨H.length, h3, rfl, hg2⟩, fun j hj => List.getElem?_append_left (by omega), by simp⟩
    refine OpH.mono ?_ (fun _ _ h => h) (Zeo (C := Cg) (m := 1) (news := cs) (e := Zab) rfl rfl (by decide) rfl rfl rfl hx h rfl rfl rfl hy rfl (by rw [h9]; rfl) (by show (out.length + 1) * 80 ≤ 140737488355328; omega) (by rw [maxLen_eq]; omega) hsn)
    rintro d' H' ⟨rfl, rfl⟩
    have hg2 : (H.set id none ++ [some (AObj.mk P1 Zab 9 true none)])[(H.set id none).length]? = some (some (AObj.mk P1 Zab 9 true none)) := get_last rfl
    refine ⟨⟨(H.set id none).length, by rw [List.length_set]; exact h3, rfl, hg2⟩, fun j hj => ?_, by simp⟩
    rw [List.getElem?_append_left (by rw [List.length_set]; omega), List.getElem?_set_ne (by omega)]
  exact AOps.opH hg key (fun d' H' ⟨⟨id, a1, a2, a3⟩, h2, h3⟩ => by rw [(hput d').eq]; exact hk d' H' (.inr ⟨by simp, id, a1, by rw [a2, List.length_append]; rfl, by rw [a3, hP1]⟩) h2 h3) (fun _ _ h => h.elim)
theorem Zgc {E : D → List D} {f : FuncId} [hput : ∀ d, Put env dst d (E d)] {tys : Array TypeId} {v : D} (hg : gOk ops.toList env gd = some true) (hf : evO Cg env y = some (.clos f [])) (hx : evO Cg env x = some d) (ho : OutS H d out) (hc : PC Cg f [slP out] (fun o => o = .ret v))
    (hk : ∀ H', OutD H' d out → (∀ j, j < 3 → H'[j]? = H[j]?) → AOps Cg Q ops rest k (E v) H' df) : AOps Cg Q ops (⟨dst, .call ⟨.value y, #[x], tys⟩, ty, pos, aft, gd⟩ :: rest) k env H df := by
  rcases ho with ⟨rfl, rfl⟩ | ⟨hne, id, hid, rfl, h⟩
  · refine Ze3 (ids := []) (ds := [.nilsl]) hg hf (by simp only [evOs, hx]) (.cons .nil .nil) (hc _) ?_ (by rintro _ _ ⟨_, h⟩; cases h)
    rintro d' H' ⟨rfl, h1⟩
    injection h1 with h1
    subst h1
    exact hk _ (.inl ⟨rfl, rfl⟩) (fun _ _ => rfl)
  refine Ze3 (ids := [id]) (ds := [.row id out.length]) hg hf (by simp only [evOs, hx]) (.cons (.row h (pures_pcs out)) .nil) (hc _) ?_ (by rintro _ _ ⟨_, h⟩; cases h)
  rintro d' H' ⟨rfl, h1⟩
  injection h1 with h1
  subst h1
  have hz : frz H [id] = H.set id (some ⟨pcs out, Zab, 9, false, none⟩) := by simp only [frz, h]
  rw [hz]
  exact hk _ (.inr ⟨id, _, rfl, heap_set_get h, rfl⟩) (fun j hj => List.getElem?_set_ne (by omega))
end
end Go.V
set_option maxHeartbeats 8000000
set_option maxRecDepth 100000
set_option synthInstance.maxSize 100000
set_option synthInstance.maxHeartbeats 2000000
namespace Go.V
open Go.RowKit Go.Proofs
theorem convE_ok {cnt n wid len c : Nat} {w pl mute pos : Bool} {S : Nat → Bool} {r : List Nat} {p : Pc} {q : List Nat} {c' : Nat} {w' pl' : Bool} (h : convE cnt w pl n mute pos wid len c S r = .ok p q c' w' pl') : q = r ∧ c' ≤ cnt + 1 ∧ p.arg ≤ 64 := by
  unfold convE at h
  cases h1 : (w || pos) && (pl || (!mute && decide (n = 0)))
  · rw [h1, cond_false] at h
    cases h2 : decide (10000 < wid) || decide (64 < (if (!mute && decide (n = 0)) = true then cnt + 1 else n))
    · rw [h2, cond_false] at h
      injection h with a b c d e
      rw [Bool.or_eq_false_iff, decide_eq_false_iff_not, decide_eq_false_iff_not] at h2
      refine ⟨b.symm, by rw [← c]; split <;> omega, ?_⟩
      rw [← a]
      show (((if (!mute && decide (n = 0)) = true then cnt + 1 else n) : Nat) : Int) ≤ 64
      omega
    rw [h2, cond_true] at h; cases h
  rw [h1, cond_true] at h; cases h
theorem convC_ok {cnt n wid len : Nat} {w pl mute pos : Bool} {r : List Nat} {p : Pc} {q : List Nat} {c' : Nat} {w' pl' : Bool} (h : convC cnt w pl n mute pos wid len r = .ok p q c' w' pl') : q.length < r.length ∧ c' ≤ cnt + 1 ∧ p.arg ≤ 64 := by
  cases r with
  | nil => cases h
  | cons c r =>
    rw [convC] at h
    cases hb : (decide (sclass c = 0) || !slong ((sclass c : Nat) : Int) (len : Int)) || (decide (sclass c = 5) && (mute || decide (0 < wid)))
    · rw [hb, cond_false] at h
      split at h
      · cases hs : stL r with
        | none => rw [hs] at h; cases h
        | some X =>
          obtain ⟨S, q0⟩ := X
          rw [hs] at h
          obtain ⟨e1, e2, e3⟩ := convE_ok h
          obtain ⟨u, hu⟩ := stL_suf hs
          have := congrArg List.length hu
          rw [List.length_append] at this
          rw [e1, List.length_cons]
          exact ⟨by omega, e2, e3⟩
      obtain ⟨e1, e2, e3⟩ := convE_ok h
      rw [e1, List.length_cons]
      exact ⟨by omega, e2, e3⟩
    rw [hb, cond_true] at h; cases h
theorem convL_ok {cnt : Nat} {w pl : Bool} {r : List Nat} {p : Pc} {q : List Nat} {c' : Nat} {w' pl' : Bool} (h : convL cnt w pl r = .ok p q c' w' pl') : q.length < r.length ∧ c' ≤ cnt + 1 ∧ p.arg ≤ 64 := by
  unfold convL at h
  obtain ⟨a, b, c⟩ := convC_ok h
  rw [List.length_drop] at a
  have h1 := (dgL_le 0 (argL r).2.2.2 (by decide)).2
  obtain ⟨u, hu⟩ := argL_suf r
  have := congrArg List.length hu
  rw [List.length_append] at this
  exact ⟨by omega, b, c⟩
theorem pieceL_ok {cnt : Nat} {w pl : Bool} {r : List Nat} {p : Pc} {q : List Nat} {c' : Nat} {w' pl' : Bool} (h : pieceL cnt w pl r = .ok p q c' w' pl') : q.length < r.length ∧ c' ≤ cnt + 1 ∧ p.arg ≤ 64 := by
  cases r with
  | nil => cases h
  | cons c r =>
    rw [pieceL] at h
    cases hw : swhite c
    · rw [hw, cond_false] at h
      split at h
      · cases h3 : hdIs r 37
        · rw [h3, cond_false] at h
          cases hc : convL cnt w pl r with
          | bad => rw [hc] at h; cases h
          | lim => rw [hc] at h; cases h
          | ok p0 q0 c0 w0 pl0 =>
            rw [hc] at h
            injection h with a b c d e
            subst a; subst b; subst c
            obtain ⟨h1, h2, h3⟩ := convL_ok hc
            exact ⟨by rw [List.length_cons]; omega, h2, h3⟩
        rw [h3, cond_true] at h
        injection h with a b c d e
        subst a; subst b; subst c
        rw [List.length_drop, List.length_cons]
        exact ⟨by omega, Nat.le_succ _, by show (0 : Int) ≤ 64; decide⟩
      rename_i h37
      cases h0 : hdIs (runL splain (c :: r)).2 0
      · rw [h0, cond_false] at h
        injection h with a b c' d e
        subst a; subst b; subst c'
        refine ⟨?_, Nat.le_succ _, by show (0 : Int) ≤ 64; decide⟩
        rw [runL] at h0 ⊢
        cases hp : splain c
        · rw [hp] at h0
          have h0 : decide (c = 0) = false := h0
          have h0 := of_decide_eq_false h0
          unfold splain at hp
          rw [decide_eq_true h0, decide_eq_true h37, hw] at hp
          cases hp
        show (runL splain r).2.length < (c :: r).length
        have := runL_len splain r
        rw [List.length_cons]; omega
      rw [h0, cond_true] at h; cases h
    rw [hw, cond_true] at h
    injection h with a b c' d e
    subst a; subst b; subst c'
    refine ⟨?_, Nat.le_succ _, by show (0 : Int) ≤ 64; decide⟩
    rw [runL, hw]
    show (runL swhite r).2.length < (c :: r).length
    have := runL_len swhite r
    rw [List.length_cons]; omega
theorem convC_suf {cnt n wid len : Nat} {w pl mute pos : Bool} {r : List Nat} {p : Pc} {q : List Nat} {c' : Nat} {w' pl' : Bool} (h : convC cnt w pl n mute pos wid len r = .ok p q c' w' pl') : ∃ u, r = u ++ q := by
  cases r with
  | nil => cases h
  | cons c r =>
    rw [convC] at h
    cases hb : (decide (sclass c = 0) || !slong ((sclass c : Nat) : Int) (len : Int)) || (decide (sclass c = 5) && (mute || decide (0 < wid)))
    · rw [hb, cond_false] at h
      split at h
      · cases hs : stL r with
        | none => rw [hs] at h; cases h
        | some X =>
          obtain ⟨S, q0⟩ := X
          rw [hs] at h
          obtain ⟨e1, _, _⟩ := convE_ok h
          obtain ⟨u, hu⟩ := stL_suf hs
          exact ⟨c :: u, by rw [hu, e1]; rfl⟩
      obtain ⟨e1, _, _⟩ := convE_ok h
      exact ⟨[c], by rw [e1]; rfl⟩
    rw [hb, cond_true] at h; cases h
theorem convL_suf {cnt : Nat} {w pl : Bool} {r : List Nat} {p : Pc} {q : List Nat} {c' : Nat} {w' pl' : Bool} (h : convL cnt w pl r = .ok p q c' w' pl') : ∃ u, r = u ++ q := by
  unfold convL at h
  obtain ⟨u1, h1⟩ := convC_suf h
  obtain ⟨u2, h2⟩ := dgL_suf 0 (argL r).2.2.2
  obtain ⟨u3, h3⟩ := argL_suf r
  refine ⟨u3 ++ (u2 ++ ((dgL 0 (argL r).2.2.2).2.take (lenAt (modL (dgL 0 (argL r).2.2.2).2)).length ++ u1)), ?_⟩
  rw [List.append_assoc, List.append_assoc, List.append_assoc, ← h1, List.take_append_drop, ← h2, ← h3]
theorem pieceL_suf {cnt : Nat} {w pl : Bool} {r : List Nat} {p : Pc} {q : List Nat} {c' : Nat} {w' pl' : Bool} (h : pieceL cnt w pl r = .ok p q c' w' pl') : ∃ u, r = u ++ q := by
  cases r with
  | nil => cases h
  | cons c r =>
    rw [pieceL] at h
    cases hw : swhite c
    · rw [hw, cond_false] at h
      split at h
      · cases h3 : hdIs r 37
        · rw [h3, cond_false] at h
          cases hc : convL cnt w pl r with
          | bad => rw [hc] at h; cases h
          | lim => rw [hc] at h; cases h
          | ok p0 q0 c0 w0 pl0 =>
            rw [hc] at h
            injection h with a b c1 d e
            subst b
            obtain ⟨u, hu⟩ := convL_suf hc
            exact ⟨c :: u, by rw [hu]; rfl⟩
        rw [h3, cond_true] at h
        injection h with a b c1 d e
        subst b
        exact ⟨c :: r.take 1, by rw [List.cons_append, List.take_append_drop]⟩
      cases h0 : hdIs (runL splain (c :: r)).2 0
      · rw [h0, cond_false] at h
        injection h with a b c' d e
        subst b
        exact ⟨_, (runL_app splain (c :: r)).symm⟩
      rw [h0, cond_true] at h; cases h
    rw [hw, cond_true] at h
    injection h with a b c' d e
    subst b
    exact ⟨_, (runL_app swhite (c :: r)).symm⟩
theorem pieceL_err {cnt : Nat} {w pl : Bool} {r : List Nat} {e : Int} {q : List Nat} (h : pieceL cnt w pl r = .err e q) : e = 6 ∨ e = 2 := by
  cases r with
  | nil => injection h with a; exact .inl a.symm
  | cons c r =>
    rw [pieceL] at h
    cases hw : swhite c
    · rw [hw, cond_false] at h
      split at h
      · cases h3 : hdIs r 37
        · rw [h3, cond_false] at h
          cases hc : convL cnt w pl r with
          | bad => rw [hc] at h; injection h with a; exact .inl a.symm
          | lim => rw [hc] at h; injection h with a; exact .inr a.symm
          | ok p0 q0 c0 w0 pl0 => rw [hc] at h; cases h
        rw [h3, cond_true] at h; cases h
      cases h0 : hdIs (runL splain (c :: r)).2 0
      · rw [h0, cond_false] at h; cases h
      rw [h0, cond_true] at h; injection h with a; exact .inl a.symm
    rw [hw, cond_true] at h; cases h
theorem OutS.kp {H H' : Heap} {d : D} {out : List Pc} (h : OutS H d out) (k : Kp H H' 2) : OutS H' d out :=
  h.imp id fun ⟨a, id, b, c, e⟩ => ⟨a, id, b, c, (k.2 id (List.getElem?_eq_some_iff.1 e).1 (by omega)).trans e⟩
noncomputable abbrev QP (P3 : List Pc × Int × Int) : Post := QFin Cg [.tmp 2, .cell 3 24, .cell 4 3] fun o _ => o.pure = true ∧ o = .ret (.tup [slP P3.1, .int .i64 P3.2.1, .int .i64 P3.2.2])
theorem panP {P3 : List Pc × Int × Int} {env : List D} {H : Heap} {e : Int} {a : Nat} (h2 : env[2]? = some .nilsl) (h3 : env[3]? = some (.ptr 0 0)) (h4 : env[4]? = some (.ptr 1 0)) (g0 : H[0]? = some (errO 0)) (g1 : H[1]? = some (intO 0)) (hr : P3 = ([], e, (a : Int))) : QP P3 (.pan (wrongP e a)) env H [.fn Zbi [.ptr 0 0, .ptr 1 0]] := by
  refine DC.mono (dct_wrong H 0 1 0 0 e a g0 g1 (by decide)) ?_
  rintro _ _ ⟨rfl, rfl⟩
  have k0 : ((H.set 0 (errO e)).set 1 (intO (a : Int)))[0]? = some (errO e) := by rw [List.getElem?_set_ne (by decide)]; exact heap_set_get g0
  have k1 : ((H.set 0 (errO e)).set 1 (intO (a : Int)))[1]? = some (intO (a : Int)) := heap_set_get (by rw [List.getElem?_set_ne (by decide)]; exact g1)
  exact ⟨_, _, _, .tmp h2 (ResR.cell1 h3 rfl rfl k0 rfl (ResR.cell1 h4 rfl rfl k1 rfl .nil)), .cons .nil (.cons (.same _) (.cons (.same _) .nil)), rfl, by rw [hr]; rfl⟩
theorem Zah (s : ByteArray) : PC Cg ZaX [.str s] (fun o => o = .ret (.tup [slP (parseF s).1, .int .i64 (parseF s).2.1, .int .i64 (parseF s).2.2])) := by
  obtain ⟨P3, hP3⟩ : ∃ P3, P3 = parseF s := ⟨_, rfl⟩
  rw [← hP3]
  unfold parseF at hP3
  have hl := sby_len s
  refine PC.rn Zb1 ZdD ZdE (rs := [.tmp 2, .cell 3 24, .cell 4 3]) (by rw [ZdF]) ?_
  refine ARun.seq (ARun.region ?_); refine zza ?_
  refine y_new rfl (Zbk rfl rfl rfl rfl) ?_
  refine y_new rfl (Zbk rfl rfl rfl rfl) ?_
  refine AOps.nil (ARun.seq (ARun.seq (ARun.region ?_))); refine zzm ?_
  refine y_op rfl (Zae rfl rfl) ?_
  refine zzi ?_; refine AOps.nil ?_
  refine ARun.ite rfl (fun g => ?_) (fun g => ?_)
  · skip
    rw [if_pos (show 2000 < s.size by omega)] at hP3
    subst hP3
    refine ARun.seq (ARun.region ?_); refine zza ?_
    first
      | refine y_new rfl (Zac rfl rfl rfl rfl rfl rfl (Nat.le_of_ble_eq_true rfl) rfl) ?_
      | refine y_new rfl (Zac rfl rfl rfl rfl rfl rfl (by simp; omega) (win_set (by assumption) (by omega))) ?_
      | refine y_new rfl (Zac rfl rfl rfl rfl rfl rfl (by simp; omega) nts_set) ?_
    first
      | refine y_new rfl (Zac rfl rfl rfl rfl rfl rfl (Nat.le_of_ble_eq_true rfl) rfl) ?_
      | refine y_new rfl (Zac rfl rfl rfl rfl rfl rfl (by simp; omega) (win_set (by assumption) (by omega))) ?_
      | refine y_new rfl (Zac rfl rfl rfl rfl rfl rfl (by simp; omega) nts_set) ?_
    refine AOps.nil ?_
    refine ARun.ret ?_
    exact ⟨_, _, _, .tmp rfl (ResR.cell1 rfl rfl rfl rfl rfl (ResR.cell1 rfl rfl rfl rfl rfl .nil)), .cons .nil (.cons (.same _) (.cons (.same _) .nil)), rfl, rfl⟩
  have hmax : s.size ≤ 2000 := by omega
  rw [if_neg (show ¬ 2000 < s.size by omega)] at hP3
  obtain ⟨R, hR⟩ : ∃ R, R = prsF (s.size + 1) [] 0 false false (sby s) := ⟨_, rfl⟩
  rw [← hR] at hP3
  refine ARun.skip (ARun.seq (ARun.region ?_)); refine zza ?_; refine AOps.nil (ARun.seq (ARun.region ?_))
  refine ZgH rfl rfl rfl ?_
  refine AOps.nil (ARun.seq (ARun.region ?_)); refine zzm ?_
  refine y_op rfl (Za8 rfl rfl rfl rfl rfl) ?_
  refine y_op rfl (Za8 rfl rfl rfl rfl rfl) ?_
  refine y_new rfl (n_box rfl rfl rfl) ?_
  refine zza ?_; refine AOps.nil (ARun.seq (ARun.block ?_))
  refine ARun.loopI (S := List Pc × D × Nat × Nat × Bool × Bool × Nat × Heap) (fun σ : List Pc × D × Nat × Nat × Bool × Bool × Nat × Heap => [(2, .nilsl), (5, σ.2.1), (16, .any), (17, .any), (18, .any), (19, .any), (20, .any), (21, .any), (22, .any), (23, .any), (24, .any), (25, .any), (26, .any), (27, .any), (28, .any), (29, .any), (30, .any), (31, .any), (32, .any), (33, .any), (34, .any), (35, .any), (36, .any)]) (fun σ : List Pc × D × Nat × Nat × Bool × Bool × Nat × Heap => σ.2.2.2.2.2.2.2) (fun σ : List Pc × D × Nat × Nat × Bool × Bool × Nat × Heap => OutS σ.2.2.2.2.2.2.2 σ.2.1 σ.1 ∧ σ.2.2.2.2.2.2.2[0]? = some (errO 0) ∧ σ.2.2.2.2.2.2.2[1]? = some (intO 0) ∧ σ.2.2.2.2.2.2.2[2]? = some (rdS s σ.2.2.1 σ.2.2.2.1 σ.2.2.2.2.1 σ.2.2.2.2.2.1) ∧ σ.2.2.1 ≤ s.size ∧ σ.2.2.2.1 ≤ σ.1.length ∧ σ.1.length ≤ 500 ∧ (∀ p ∈ σ.1, p.arg ≤ 64) ∧ s.size - σ.2.2.1 < σ.2.2.2.2.2.2.1 ∧ R = prsF σ.2.2.2.2.2.2.1 σ.1 σ.2.2.2.1 σ.2.2.2.2.1 σ.2.2.2.2.2.1 ((sby s).drop σ.2.2.1)) (fun σ : List Pc × D × Nat × Nat × Bool × Bool × Nat × Heap => s.size - σ.2.2.1) (([], .nilsl, 0, 0, false, false, s.size + 1, [errO 0, intO 0, rdS s 0 0 false false])) ?_ ?_ ?_ ?_
  · exact ⟨.inl ⟨rfl, rfl⟩, rfl, rfl, rfl, Nat.zero_le _, Nat.zero_le _, Nat.zero_le _, (fun p h => by cases h), Nat.lt_succ_self _, hR⟩
  · (repeat' first | exact envLe_nil | apply envLe_any | apply envLe_same)
  · rfl
  rintro ⟨out, d, i, n, w, pl, f, H⟩ hinv ih
  dsimp only at hinv ih ⊢
  obtain ⟨i1, i2, i3, i4, i5, i6, i7, i8, i9, i10⟩ := hinv
  obtain ⟨f, rfl⟩ : ∃ f', f = f' + 1 := ⟨f - 1, by omega⟩
  refine ARun.seq (ARun.seq (ARun.region ?_)); refine zzm ?_
  refine y_op rfl (q_nil rfl rfl) ?_
  first
    | refine y_op rfl (q_fldP rfl rfl rfl (by decide)) ?_
    | refine y_op rfl (q_fldS rfl rfl rfl (by decide)) ?_
  first
    | refine y_op rfl (q_fldP rfl rfl rfl (by decide)) ?_
    | refine y_op rfl (q_fldS rfl rfl rfl (by decide)) ?_
  refine y_op rfl (Zaa rfl rfl rfl i4 rfl) ?_
  refine zzm ?_
  refine y_op rfl (Zae rfl rfl) ?_
  refine y_op rfl (OpQ.cast (d' := .bool (decide (i < s.size))) (q_int rfl rfl rfl) (congrArg D.bool (decide_eq_decide.2 (by omega)))) ?_
  refine AOps.nil ?_
  refine ARun.ite rfl (fun g => ?_) (fun g => ?_)
  · skip
    have hne : ¬ (sby s).drop i = [] := fun e => by
      have := congrArg List.length e
      rw [List.length_drop, hl] at this
      simp at this; omega
    rw [prsF, if_neg hne] at i10
    refine ARun.skip (ARun.block (ARun.seq (ARun.seq (ARun.region ?_)))); refine zzm ?_
    refine y_op rfl (Zgu rfl i1) ?_
    refine y_op rfl (OpQ.cast (d' := .bool (decide (out.length = 500))) (q_int rfl rfl rfl) (congrArg D.bool (decide_eq_decide.2 (by omega)))) ?_
    refine AOps.nil ?_
    refine ARun.ite rfl (fun z => ?_) (fun z => ?_)
    · skip
      rw [if_pos z] at i10
      rw [i10] at hP3
      replace hP3 : P3 = ([], 2, ((s.size - ((sby s).drop i).length : Nat) : Int)) := hP3
      rw [← hl, drop_back (by omega)] at hP3
      subst hP3
      refine ARun.seq (ARun.region ?_); refine zzm ?_
      refine y_op rfl (q_nil rfl rfl) ?_
      first
        | refine y_op rfl (q_fldP rfl rfl rfl (by decide)) ?_
        | refine y_op rfl (q_fldS rfl rfl rfl (by decide)) ?_
      first
        | refine y_op rfl (q_fldP rfl rfl rfl (by decide)) ?_
        | refine y_op rfl (q_fldS rfl rfl rfl (by decide)) ?_
      refine y_op rfl (Zaa rfl rfl rfl i4 rfl) ?_
      refine zza ?_
      refine y_new rfl (Zac rfl rfl rfl rfl i2 rfl (Nat.le_of_ble_eq_true rfl) rfl) ?_
      refine y_new rfl (Zac rfl rfl rfl rfl (show (H.set 0 (errO 2))[1]? = _ by rw [List.getElem?_set_ne (by decide)]; exact i3) rfl (Nat.le_of_ble_eq_true rfl) rfl) ?_
      refine AOps.nil ?_
      refine ARun.ret ?_
      refine DC.mono (dct_ret _ 0 1) ?_
      rintro _ _ ⟨rfl, rfl⟩
      have k0 : ((H.set 0 (errO 2)).set 1 (intO (i : Int)))[0]? = some (errO 2) := by rw [List.getElem?_set_ne (by decide)]; exact heap_set_get i2
      have k1 : ((H.set 0 (errO 2)).set 1 (intO (i : Int)))[1]? = some (intO (i : Int)) := heap_set_get (by rw [List.getElem?_set_ne (by decide)]; exact i3)
      exact ⟨_, _, _, .tmp rfl (ResR.cell1 rfl rfl rfl k0 rfl (ResR.cell1 rfl rfl rfl k1 rfl .nil)), .cons .nil (.cons (.same _) (.cons (.same _) .nil)), rfl, rfl⟩
    rw [if_neg z] at i10
    have hpc := Zgt H 2 s i n w pl i4 g hmax (by omega)
    have hok := fun p q c' w' pl' => pieceL_ok (cnt := n) (w := w) (pl := pl) (r := (sby s).drop i) (p := p) (q := q) (c' := c') (w' := w') (pl' := pl')
    have hsuf := fun p q c' w' pl' => pieceL_suf (cnt := n) (w := w) (pl := pl) (r := (sby s).drop i) (p := p) (q := q) (c' := c') (w' := w') (pl' := pl')
    have herr := fun e q => pieceL_err (cnt := n) (w := w) (pl := pl) (r := (sby s).drop i) (e := e) (q := q)
    have hH3 : 3 ≤ H.length := (List.getElem?_eq_some_iff.1 i4).1
    generalize pieceL n w pl ((sby s).drop i) = X at *
    cases X with
    | err e q =>
      replace i10 : R = ([], e, q) := i10
      have he := herr e q rfl
      rw [i10] at hP3
      replace hP3 : P3 = ([], e, ((s.size - q.length : Nat) : Int)) := by
        rw [hP3]
        show (([] : List Pc), e, if e = 0 then (0 : Int) else ((s.size - q.length : Nat) : Int)) = _
        rw [if_neg (by omega)]
      refine ARun.skip (ARun.region ?_); refine zzm ?_; refine zzm ?_
      refine Zad rfl rfl rfl rfl hpc (by rintro _ _ ⟨_, h⟩; cases h) (fun q0 H' hq => by obtain ⟨hq1, hq⟩ := hq; injection hq with hq; subst hq; exact panP rfl rfl rfl ((hq1.2 0 (by omega) (by decide)).trans i2) ((hq1.2 1 (by omega) (by decide)).trans i3) hP3)
    | ok p q c' w' pl' =>
      replace i10 : R = prsF f (out ++ [p]) c' w' pl' q := i10
      obtain ⟨o1, o2, o3⟩ := hok p q c' w' pl' rfl
      rw [List.length_drop, hl] at o1
      obtain ⟨u, hu⟩ := hsuf p q c' w' pl' rfl
      obtain ⟨e7, e8⟩ := suf_drop (l := sby s) (i := i) (by omega) hu
      rw [hl] at e7 e8
      refine ARun.skip (ARun.region ?_); refine zzm ?_; refine zzm ?_
      refine Zad rfl rfl rfl rfl hpc ?_ (by rintro _ _ ⟨_, h, _⟩; cases h)
      rintro q1 H1 ⟨f0, f1, f2⟩
      injection f1 with f1
      subst f1
      have iO := i1.kp f0
      have hH1 := f0.1
      refine y_op rfl (ZbH rfl rfl rfl rfl rfl rfl rfl rfl rfl rfl rfl (by decide) (by decide) rfl) ?_
      refine Zgv (p := p) rfl rfl iO rfl (by omega) (by omega) (fun d' H' a1 a2 a3 => ?_)
      refine zza ?_; refine AOps.nil (ARun.inBlock ?_)
      refine ARun.again (ih ((out ++ [p], d', s.size - q.length, c', w', pl', f, H')) ?_ ?_) ?_ ?_
      · exact ⟨a1, (a2 0 (by decide)).trans ((f0.2 0 (by omega) (by decide)).trans i2), (a2 1 (by decide)).trans ((f0.2 1 (by omega) (by decide)).trans i3), (a2 2 (by decide)).trans f2, (by dsimp only; omega), (by dsimp only; rw [List.length_append]; show _ ≤ _ + 1; omega), (by dsimp only; rw [List.length_append]; show _ + 1 ≤ _; omega), (fun x hx => by rw [List.mem_append, List.mem_singleton] at hx; rcases hx with hx | hx; exact i8 x hx; rw [hx]; exact o3), (by dsimp only; omega), (by dsimp only; rw [e7]; exact i10)⟩
      · (dsimp only; omega)
      · (repeat' first | exact envLe_nil | apply envLe_any | apply envLe_same)
      rfl
  have his : i = s.size := by omega
  subst his
  rw [List.drop_eq_nil_of_le (by omega), prsF, if_pos rfl] at i10
  refine ARun.exit rfl ?_
  refine ARun.seq (ARun.seq (ARun.region ?_)); refine zzm ?_
  refine Zgc rfl rfl rfl i1 (PC.g (ZeJ out (by omega) i8)) (fun H' b1 b2 => ?_)
  have k0 := (b2 0 (by decide)).trans i2
  have k1 := (b2 1 (by decide)).trans i3
  refine zzm ?_; refine zze ?_; refine zze ?_; refine zza ?_; refine zza ?_; refine AOps.nil (ARun.seq (ARun.region ?_)); refine zzm ?_; refine AOps.nil ?_
  refine ARun.cond rfl (fun v => ?_) (fun v => ?_)
  · skip
    have v : (sgr out).2 = false := by simpa using v
    rw [v, cond_false] at i10
    rw [i10] at hP3
    replace hP3 : P3 = ([], 6, ((s.size - ([] : List Nat).length : Nat) : Int)) := hP3
    refine ARun.region ?_; refine zzm ?_
    refine y_op rfl (Zae rfl rfl) ?_
    refine Zad rfl rfl rfl rfl (HC.g (hc_bad H' s.size)) (by rintro _ _ ⟨h, _⟩; cases h) (fun q0 H' hq => by obtain ⟨hq, rfl⟩ := hq; injection hq with hq; subst hq; exact panP rfl rfl rfl k0 k1 hP3)
  have v : (sgr out).2 = true := by simpa using v
  rw [v, cond_true] at i10
  rw [i10] at hP3
  replace hP3 : P3 = (out, 0, 0) := hP3
  subst hP3
  refine ARun.skip (ARun.seq (ARun.region ?_)); refine zzm ?_; refine zza ?_
  refine y_new rfl (Zac rfl rfl rfl rfl k0 rfl (Nat.le_of_ble_eq_true rfl) rfl) ?_
  refine y_new rfl (Zac rfl rfl rfl rfl (show (H'.set 0 (errO 0))[1]? = _ by rw [List.getElem?_set_ne (by decide)]; exact k1) rfl (Nat.le_of_ble_eq_true rfl) rfl) ?_
  refine AOps.nil ?_
  refine ARun.ret ?_
  refine DC.mono (dct_ret _ 0 1) ?_
  rintro _ _ ⟨rfl, rfl⟩
  have m0 : ((H'.set 0 (errO 0)).set 1 (intO 0))[0]? = some (errO 0) := by rw [List.getElem?_set_ne (by decide)]; exact heap_set_get k0
  have m1 : ((H'.set 0 (errO 0)).set 1 (intO 0))[1]? = some (intO 0) := heap_set_get (by rw [List.getElem?_set_ne (by decide)]; exact k1)
  have b2 : OutD ((H'.set 0 (errO 0)).set 1 (intO 0)) d out := by
    rw [show (H'.set 0 (errO 0)).set 1 (intO 0) = H' by rw [heap_set_self k0, heap_set_self k1]]
    exact b1
  obtain ⟨ids, hfz⟩ := b2.fz
  exact ⟨_, _, _, .tmp rfl (ResR.cell1 rfl rfl rfl m0 rfl (ResR.cell1 rfl rfl rfl m1 rfl .nil)), .cons hfz (.cons (.same _) (.cons (.same _) .nil)), by rfl, rfl⟩
end Go.V
set_option maxHeartbeats 4000000
set_option maxRecDepth 100000
namespace Go.V
open Go.RowKit Go.Proofs
noncomputable def prsG : Nat → Nat → Nat → Bool → Bool → List Nat → List Pc × Int × List Nat
  | 0, _, _, _, _, r => ([], 6, r)
  | f + 1, m, cnt, w, pl, r =>
    if r = [] then ([], 0, []) else
    if m = 500 then ([], 2, r) else
    match pieceL cnt w pl r with
    | .err e q => ([], e, q)
    | .ok p q cnt' w' pl' => (p :: (prsG f (m + 1) cnt' w' pl' q).1, (prsG f (m + 1) cnt' w' pl' q).2)
theorem prsF_G : ∀ (f : Nat) (out : List Pc) (cnt : Nat) (w pl : Bool) (r : List Nat), prsF f out cnt w pl r = if (prsG f out.length cnt w pl r).2.1 = 0 then (bif (sgr (out ++ (prsG f out.length cnt w pl r).1)).2 then (out ++ (prsG f out.length cnt w pl r).1, 0, []) else ([], 6, [])) else ([], (prsG f out.length cnt w pl r).2.1, (prsG f out.length cnt w pl r).2.2)
  | 0, out, cnt, w, pl, r => rfl
  | f + 1, out, cnt, w, pl, r => by
    rw [prsF, prsG]
    by_cases h1 : r = []
    · rw [if_pos h1, if_pos h1, if_pos rfl, List.append_nil]
    rw [if_neg h1, if_neg h1]
    by_cases h2 : out.length = 500
    · rw [if_pos h2, if_pos h2]; rfl
    rw [if_neg h2, if_neg h2]
    cases hp : pieceL cnt w pl r with
    | err e q =>
      have he := pieceL_err hp
      simp only
      rw [if_neg (by omega)]
    | ok p q c' w' pl' =>
      simp only
      have ih := prsF_G f (out ++ [p]) c' w' pl' q
      rw [List.length_append, List.length_singleton] at ih
      rw [ih, List.append_assoc, List.singleton_append]
abbrev sx1 : ByteArray := ⟨#[37, 100, 32, 44, 37, 42, 53, 115, 37, 108, 102]⟩
abbrev sx2 : ByteArray := ⟨#[37, 50, 36, 115, 37, 49, 36, 91, 94, 93, 97, 45, 99, 93]⟩
abbrev sx3 : ByteArray := ⟨#[37, 49, 36, 100, 37, 100]⟩
abbrev sx4 : ByteArray := ⟨#[97, 45, 99, 45, 101]⟩
def lx1 : List Pc := [⟨ByteArray.empty, 1, 0, 0, 100, sempty⟩, bareP ByteArray.empty 0 0 0 32, bareP (bytesOf [44]) 0 0 0 0, ⟨ByteArray.empty, 0, 5, 0, 115, sempty⟩, ⟨ByteArray.empty, 2, 0, 3, 102, sempty⟩]
noncomputable def setx : Nat → Bool := (readS (bytesOf [94, 93, 97, 45, 99])).1
noncomputable def lx2 : List Pc := [⟨ByteArray.empty, 2, 0, 0, 115, sempty⟩, ⟨ByteArray.empty, 1, 0, 0, 91, setx⟩]
theorem gx1 : prsG 12 0 0 false false (sby sx1) = (lx1, 0, []) := by rfl
theorem gx2 : prsG 15 0 0 false false (sby sx2) = (lx2, 0, []) := by rfl
theorem gx3 : prsG 7 0 0 false false (sby sx3) = ([⟨ByteArray.empty, 1, 0, 0, 100, sempty⟩], 6, [37, 100]) := by rfl
theorem sgr_2 {l : List Pc} (hm : smost l 0 = 2) (h1 : sused l 1 = true) (h2 : sused l 2 = true) : sgr l = (2, true) := by
  unfold sgr
  rw [hm, show (2 : Int).toNat = 2 from rfl, sall_yes (by decide) h1, sall_yes (by decide) h2, sall_end (by decide)]
theorem sgr_1 : sgr lx1 = (2, true) := sgr_2 rfl rfl rfl
theorem sgr_x2 : sgr lx2 = (2, true) := sgr_2 rfl rfl rfl
theorem parse_G {s : ByteArray} (hs : s.size ≤ 2000) : parseF s = if (prsG (s.size + 1) 0 0 false false (sby s)).2.1 = 0 then (bif (sgr (prsG (s.size + 1) 0 0 false false (sby s)).1).2 then ((prsG (s.size + 1) 0 0 false false (sby s)).1, 0, 0) else ([], 6, (s.size : Int))) else ([], (prsG (s.size + 1) 0 0 false false (sby s)).2.1, ((s.size - (prsG (s.size + 1) 0 0 false false (sby s)).2.2.length : Nat) : Int)) := by
  unfold parseF
  rw [if_neg (by omega), prsF_G]
  simp only [List.length_nil, List.nil_append]
  generalize prsG (s.size + 1) 0 0 false false (sby s) = g
  by_cases h : g.2.1 = 0
  · rw [if_pos h, if_pos h]
    cases (sgr g.1).2
    · rfl
    rfl
  rw [if_neg h, if_neg h]
  simp only
  rw [if_neg h]
theorem px1 : parseF sx1 = (lx1, 0, 0) := by
  rw [parse_G (by decide), show prsG (sx1.size + 1) 0 0 false false (sby sx1) = (lx1, 0, []) from gx1, if_pos rfl, sgr_1]; rfl
theorem px2 : parseF sx2 = (lx2, 0, 0) := by
  rw [parse_G (by decide), show prsG (sx2.size + 1) 0 0 false false (sby sx2) = (lx2, 0, []) from gx2, if_pos rfl, sgr_x2]; rfl
theorem px3 : parseF sx3 = ([], 6, 4) := by
  rw [parse_G (by decide), show prsG (sx3.size + 1) 0 0 false false (sby sx3) = ([⟨ByteArray.empty, 1, 0, 0, 100, sempty⟩], 6, [37, 100]) from gx3, if_neg (by decide)]; rfl
theorem bad_1 : ∀ i, i < 5 → sbad lx1 i = false
  | 0, _ | 1, _ | 2, _ | 3, _ | 4, _ => by rfl
  | i + 5, h => by omega
theorem bad_2 : ∀ i, i < 2 → sbad lx2 i = false
  | 0, _ | 1, _ => by rfl
  | i + 2, h => by omega
theorem schk_all' {l : List Pc} (h : ∀ i, i < l.length → sbad l i = false) (hg : (sgr l).2 = true) : ∀ i, i ≤ l.length → schk l i = (0, 0)
  | i, hi => by
    rcases Nat.lt_or_ge i l.length with g | g
    · rw [schk_go g (h i g)]; exact schk_all' h hg (i + 1) g
    rw [schk_end (by omega), hg]; rfl
termination_by i => l.length - i
theorem check_1 : scheck lx1 = (0, 0) := by
  unfold scheck
  rw [if_neg (by decide)]
  exact schk_all' (l := lx1) bad_1 (by rw [sgr_1]) 0 (by decide)
theorem check_2 : scheck lx2 = (0, 0) := by
  unfold scheck
  rw [if_neg (by decide)]
  exact schk_all' (l := lx2) bad_2 (by rw [sgr_x2]) 0 (by decide)
theorem args_1 : sArgs lx1 = (2, 0) := by unfold sArgs; rw [check_1, if_pos rfl, sgr_1]
theorem ord_2 : sOrd lx2 = (false, 0) := by unfold sOrd; rw [check_2, if_pos rfl]; rfl
theorem rtx_skip {T : Nat → Bool} {c : Nat} (d : Nat) (hd : d ≤ 256) (hcd : c ≤ d) (h : ∀ x, c ≤ x → x < d → rin T x = false) : rtx T c = rtx T d := by
  rcases Nat.eq_or_lt_of_le hcd with rfl | g
  · rfl
  rw [rtx_no (by omega) (h c (Nat.le_refl c) g)]
  exact rtx_skip (c := c + 1) d hd g (fun x h1 h2 => h x (by omega) h2)
termination_by d - c
theorem tx2 : setTx setx = ([94, 93, 97, 45, 99], 0) := by
  have h0 : setx 0 = false := by rfl
  have hn : setNeg (ssize setx 256) (setx 94) = true := by decide
  have h1 : ∀ x, x < 97 → rin (sother setx) x = false := by decide
  have h2 : ∀ x, x < 256 → 100 ≤ x → rin (sother setx) x = false := by decide
  have h3 : rin (sother setx) 97 = true ∧ rin (sother setx) 98 = true ∧ rin (sother setx) 99 = true := by decide
  have hr : rend (sother setx) 97 = 99 := rend_at (by decide) (fun x a b => ⟨by omega, by
    rcases (show x = 98 ∨ x = 99 by omega) with rfl | rfl
    · exact h3.2.1
    exact h3.2.2⟩) (fun g => by rw [h2 100 (by decide) (by decide)] at g; cases g.2)
  have hx : rtx (sother setx) 1 = [97, 45, 99] := by
    rw [rtx_skip 97 (by decide) (by decide) (fun x _ b => h1 x b), rtx_yes (by decide) h3.1, hr, rtx_skip 256 (by decide) (by decide) (fun x a b => h2 x b a), rtx_end]; rfl
  unfold setTx
  rw [h0, cond_false, hn, cond_true]
  unfold setBody
  rw [hx]; rfl
noncomputable def setx4 : Nat → Bool := (readS sx4).1
theorem rx4 : readS sx4 = (setx4, 0) := by rfl
theorem tx4 : setTx setx4 = ([97, 45, 99, 101, 45], 0) := by
  have h0 : setx4 0 = false := by rfl
  have hn : setNeg (ssize setx4 256) (setx4 94) = false := by decide
  have hd : ((decide (ssize setx4 256 = 2) && setx4 94) && setx4 45) = false := by decide
  have h1 : ∀ x, x < 97 → rin setx4 x = false := by decide
  have h2 : ∀ x, x < 256 → 102 ≤ x → rin setx4 x = false := by decide
  have h3 : rin setx4 97 = true ∧ rin setx4 98 = true ∧ rin setx4 99 = true := by decide
  have h4 : rin setx4 100 = false ∧ rin setx4 101 = true := by decide
  have hr : rend setx4 97 = 99 := rend_at (by decide) (fun x a b => ⟨by omega, by
    rcases (show x = 98 ∨ x = 99 by omega) with rfl | rfl
    · exact h3.2.1
    exact h3.2.2⟩) (fun g => by rw [h4.1] at g; cases g.2)
  have hr2 : rend setx4 101 = 101 := rend_no (fun g => by rw [h2 102 (by decide) (by decide)] at g; cases g.2)
  have hx : rtx setx4 1 = [97, 45, 99, 101] := by
    rw [rtx_skip 97 (by decide) (by decide) (fun x _ b => h1 x b), rtx_yes (by decide) h3.1, hr, rtx_no (by decide) h4.1, rtx_yes (by decide) h4.2, hr2, rtx_skip 256 (by decide) (by decide) (fun x a b => h2 x b a), rtx_end]; rfl
  unfold setTx
  rw [h0, cond_false, hn, cond_false, hd, cond_false]
  unfold setBody
  rw [hx]; rfl
theorem dn1 : dnum 1 = [49] := dnum_one (by decide)
theorem dn2 : dnum 2 = [50] := dnum_one (by decide)
theorem prn_2 : sPrint lx2 = (sx2, 0) := by
  unfold sPrint
  have ho : sord lx2 0 = false := by rfl
  have hs : sprs lx2 true = sx2 := by
    unfold sprs lx2
    simp only [List.foldl_cons, List.foldl_nil]
    have a1 : sprn ⟨ByteArray.empty, 2, 0, 0, 115, sempty⟩ true = bytesOf [37, 50, 36, 115] := by
      unfold sprn sconv pHead pWid pSet
      rw [if_neg (by decide), if_neg (by decide), if_neg (by decide), if_neg (by decide), cond_true, show (2 : Int).toNat = 2 from rfl, dn2]; rfl
    have a2 : sprn ⟨ByteArray.empty, 1, 0, 0, 91, setx⟩ true = bytesOf [37, 49, 36, 91, 94, 93, 97, 45, 99, 93] := by
      unfold sprn sconv pHead pWid pSet
      rw [if_neg (by decide), if_neg (by decide), if_neg (by decide), if_neg (by decide), cond_true, show (1 : Int).toNat = 1 from rfl, dn1, if_neg (by decide), if_pos rfl, tx2]; rfl
    rw [a1, a2]; rfl
  rw [check_2, if_pos rfl, ho, Bool.not_false, hs, if_neg (by decide)]
end Go.V
