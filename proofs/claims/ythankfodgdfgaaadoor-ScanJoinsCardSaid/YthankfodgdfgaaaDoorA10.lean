/- A part of the proof: abstract values, rules for the steps of the program's form, and contracts of its functions, each proved; no condition. -/
import Derived.Test.YthankfodgdfgaaaDoorA09
set_option linter.unusedVariables false
set_option linter.unusedSimpArgs false
set_option linter.unnecessarySimpa false
set_option maxHeartbeats 8000000
set_option maxRecDepth 100000
set_option synthInstance.maxSize 100000
set_option synthInstance.maxHeartbeats 2000000
namespace Go.V
open Go.RowKit Go.Proofs
section
variable {env : List D} {H : Heap} {dst : Option Tmp} {x y : Operand} {ty T' : TypeId} {pos : String} {aft : Array Edge} {gd : Option (Nat × Bool)} {S T : Nat → Bool} {p q : Pc}
theorem Zgs (hx : evO Cg env x = some (setD S)) (hy : evO Cg env y = some (setD T)) :
    OpQ Cg ⟨dst, .binOp .eql Zai x y T', ty, pos, aft, gd⟩ env H (.bool (sEq S T)) :=
  Zfr (m := 2) (f := 2) (by kernel_rfl) (by decide) (by kernel_rfl) hx hy rfl rfl rfl rfl (set_lits (sw_lt S 0) (sw_lt S 1) (sw_lt S 2) (sw_lt S 3)) (set_lits (sw_lt T 0) (sw_lt T 1) (sw_lt T 2) (sw_lt T 3)) (by
    unfold sEq
    rw [decide_eq_true_eq]
    simp only [List.cons.injEq, Lit.int.injEq, true_and, and_true, Int.ofNat_inj])
theorem ZgK (hx : evO Cg env x = some (setD S)) (hy : evO Cg env y = some (.agg [.int .u64 0, .int .u64 0, .int .u64 0, .int .u64 0])) :
    OpQ Cg ⟨dst, .binOp .eql Zai x y T', ty, pos, aft, gd⟩ env H (.bool (sEq S sempty)) := Zgs hx (by rw [hy, ← swL_empty])
theorem Zf8 (hx : evO Cg env x = some (pcA p)) (hy : evO Cg env y = some (pcA q)) (hp : PcF p) (hq : PcF q) :
    OpQ Cg ⟨dst, .binOp .eql Zab x y T', ty, pos, aft, gd⟩ env H (.bool (pEq p q)) :=
  Zfr (m := 3) (f := 3) (by kernel_rfl) (by decide) (by kernel_rfl) hx hy rfl rfl rfl rfl (Ze8 hp) (Ze8 hq) pEq_lits
abbrev bareP (s : ByteArray) (a w n : Int) (c : Nat) : Pc := ⟨s, a, w, n, c, sempty⟩
theorem bare_cells (s : ByteArray) (a w n : Int) (c : Nat) : pcA (bareP s a w n c) = .agg [.str s, .int .i64 a, .int .i64 w, .int .i64 n, .int .u8 (c : Int), .int .u64 0, .int .u64 0, .int .u64 0, .int .u64 0] := by
  have e : ∀ i, sw sempty i = 0 := fun i => (sw_ext (x := 0) (by decide) fun j _ => by rw [Nat.zero_testBit]; rfl).symm
  unfold pcA Pc.cells
  simp only [e]; rfl
theorem bare_fits {s : ByteArray} {c : Nat} (hs : s.size ≤ 1099511627776) (hc : c < 256) : PcF (bareP s 0 0 0 c) :=
  have h0 : (Lit.int .i64 0).wf = true := by decide
  ⟨⟨hs, hc⟩, h0, h0, h0⟩
theorem q_pcZ {s : ByteArray} {c : Nat} (hx : evO Cg env x = some (pcA p)) (hy : evO Cg env y = some (.agg [.str s, .int .i64 0, .int .i64 0, .int .i64 0, .int .u8 (c : Int), .int .u64 0, .int .u64 0, .int .u64 0, .int .u64 0])) (hp : PcF p) (hs : s.size ≤ 1099511627776) (hc : c < 256) :
    OpQ Cg ⟨dst, .binOp .eql Zab x y T', ty, pos, aft, gd⟩ env H (.bool (pEq p (bareP s 0 0 0 c))) := Zf8 hx (by rw [hy, bare_cells]) hp (bare_fits hs hc)
end
theorem sby_inj {s t : ByteArray} (h : sby s = sby t) : s.data.toList = t.data.toList := by
  have := (str_eq s t).trans (decide_eq_true h)
  rw [ByteArray.toList_eq, ByteArray.toList_eq, beq_iff_eq] at this
  exact this
theorem pEq_bare {p : Pc} {s : ByteArray} {c : Nat} (hc : p.conv = c) : pEq p (bareP s 0 0 0 c) = ((((decide (p.arg = 0) && decide (p.wid = 0)) && decide (p.len = 0)) && sEq p.set sempty) && decide (sby p.lit = sby s)) := by
  unfold pEq sEq
  rw [← Bool.decide_and, ← Bool.decide_and, ← Bool.decide_and, ← Bool.decide_and]
  apply decide_eq_decide.2
  constructor
  · rintro ⟨a, b, c, d, e, f, g, h, i⟩
    exact ⟨⟨⟨⟨b, c⟩, d⟩, f, g, h, i⟩, by unfold sby; rw [a]⟩
  rintro ⟨⟨⟨⟨b, c⟩, d⟩, f, g, h, i⟩, a⟩
  exact ⟨sby_inj a, b, c, d, hc, f, g, h, i⟩
theorem svalid_lit {p : Pc} (hc : p.conv = 0) : svalid p = (slit p.lit && pEq p (bareP p.lit 0 0 0 0)) := by
  have e : spl p = true := by unfold spl; rw [hc]; decide
  unfold svalid
  rw [e, cond_true, pEq_bare hc, decide_eq_true hc, decide_eq_true (rfl : sby p.lit = sby p.lit), Bool.and_true, Bool.true_and, Bool.not_true, Bool.false_and, Bool.or_false, Bool.and_comm]
theorem svalid_sp {p : Pc} (hc : p.conv = 32 ∨ p.conv = 37) : svalid p = pEq p (bareP ByteArray.empty 0 0 0 p.conv) := by
  have e : spl p = true := by
    unfold spl
    rcases hc with h | h <;> rw [h] <;> decide
  have h0 : ¬ p.conv = 0 := by omega
  unfold svalid
  rw [e, cond_true, pEq_bare rfl, decide_eq_false h0, Bool.false_and, Bool.false_or, Bool.not_false, Bool.true_and]; rfl
theorem sclass_le (c : Nat) : sclass c ≤ 5 := by
  unfold sclass rowsN
  simp only [classF]
  split <;> (try split) <;> (try split) <;> (try split) <;> (try split) <;> omega
theorem sclass_n {c : Nat} (h : c < 256) : decide (sclass c = 5) = decide (c = 110) := by
  have : ∀ c, c < 256 → decide (sclass c = 5) = decide (c = 110) := by decide
  exact this c h
theorem ZfS (p : Pc) (hp : PcF p) : PC Cg Zee [pcA p] (fun o => o = .ret (.bool (svalid p))) := by
  obtain ⟨R, hR⟩ : ∃ R, R = svalid p := ⟨_, rfl⟩
  rw [← hR]
  have hl := hp.1.1
  have hc := hp.1.2
  refine PC.rn Zb7 ZdO ZdP (rs := [.tmp 2]) (by rw [ZdQ]) ?_
  refine ARun.seq (ARun.region ?_); refine zzb ?_; refine zza ?_; refine AOps.nil (ARun.seq (ARun.region ?_))
  refine y_op rfl (Zbh rfl rfl rfl) ?_
  refine ZbI rfl rfl rfl rfl rfl rfl rfl rfl rfl rfl rfl ?_
  refine AOps.nil (ARun.seq (ARun.seq (ARun.region ?_))); refine zzf ?_; refine zzl ?_; refine AOps.nil (ARun.block (ARun.seq (ARun.region ?_)))
  refine y_op rfl (OpQ.cast (q_int rfl rfl rfl) (congrArg D.bool (int_dec (m := 0) rfl))) ?_
  refine zza ?_; refine AOps.nil ?_
  refine ARun.ite rfl (fun a => ?_) (fun a => ?_)
  · skip
    have a : p.conv = 0 := by omega
    rw [svalid_lit a] at hR
    refine ARun.seq (ARun.region ?_); refine zzf ?_; refine zzl ?_
    refine zzc rfl rfl (PC.g (ZfA p.lit hl)) ?_
    refine zzm ?_
    apply AOps.andJ 13 (fun sj1 => [(13, .any), (14, .any), (15, .any), (16, .any), (17, .any), (18, .any), (19, .bool sj1)]) rfl
    · intro hj1 run1
      try replace hj1 := of_decide_eq_true hj1
      refine zzL ?_; refine zzf ?_; refine zzl ?_
      refine y_op rfl (Za8 rfl rfl rfl rfl rfl) ?_
      refine y_op rfl (q_pcZ (s := p.lit) (c := 0) rfl rfl hp hl (by decide)) ?_
      refine zzp ?_
      exact AOps.ag run1
    · intro hj1 run1
      try replace hj1 := of_decide_eq_false hj1
      refine zzk ?_; refine zzk ?_; refine zzk ?_; refine zzk ?_; refine zzk ?_; refine zzp ?_
      exact AOps.ag run1
    refine zza ?_; refine AOps.nil ?_
    subst hR
    refine ARun.ret ?_
    refine ⟨_, _, _, .tmp rfl .nil, .cons (.same _) .nil, rfl, ?_⟩
    rfl
  have a : ¬ p.conv = 0 := by omega
  refine ARun.seq (ARun.seq (ARun.region ?_))
  refine y_op rfl (OpQ.cast (q_int rfl rfl rfl) (congrArg D.bool (int_dec (m := 32) rfl))) ?_
  refine zza ?_; refine AOps.nil ?_
  refine ARun.ite rfl (fun b => ?_) (fun b => ?_)
  · skip
    have b : p.conv = 32 := by omega
    rw [svalid_sp (.inl b)] at hR
    subst hR
    refine ARun.skip ?_
    refine ARun.ite rfl (fun b2 => ?_) (fun b2 => ?_)
    · skip
      refine ARun.seq (ARun.region ?_); refine zzL ?_; refine zzf ?_; refine zzl ?_
      refine y_op rfl (Za8 rfl rfl rfl rfl rfl) ?_
      refine y_op rfl (q_pcZ (s := ByteArray.empty) (c := p.conv) rfl rfl hp (by decide) hc) ?_
      refine zza ?_; refine AOps.nil ?_
      refine ARun.ret ?_
      refine ⟨_, _, _, .tmp rfl .nil, .cons (.same _) .nil, rfl, ?_⟩
      rfl
    exact absurd b b2
  have b : ¬ p.conv = 32 := by omega
  refine ARun.region ?_
  refine y_op rfl (OpQ.cast (q_int rfl rfl rfl) (congrArg D.bool (int_dec (m := 37) rfl))) ?_
  refine zza ?_; refine AOps.nil ?_
  refine ARun.ite rfl (fun d => ?_) (fun d => ?_)
  · skip
    have d : p.conv = 37 := by omega
    rw [svalid_sp (.inr d)] at hR
    subst hR
    refine ARun.seq (ARun.region ?_); refine zzL ?_; refine zzf ?_; refine zzl ?_
    refine y_op rfl (Za8 rfl rfl rfl rfl rfl) ?_
    refine y_op rfl (q_pcZ (s := ByteArray.empty) (c := p.conv) rfl rfl hp (by decide) hc) ?_
    refine zza ?_; refine AOps.nil ?_
    refine ARun.ret ?_
    refine ⟨_, _, _, .tmp rfl .nil, .cons (.same _) .nil, rfl, ?_⟩
    rfl
  have d : ¬ p.conv = 37 := by omega
  have hspl : spl p = false := by unfold spl; rw [decide_eq_false a, decide_eq_false b, decide_eq_false d]; rfl
  unfold svalid at hR
  rw [hspl, cond_false] at hR
  refine ARun.skip (ARun.inBlock (ARun.seq (ARun.region ?_))); refine zzl ?_; refine zzf ?_; refine zzl ?_
  refine y_op rfl (OpQ.cast (d' := .int .i64 ((sclass p.conv : Nat) : Int)) (Zfd (kt := Zbl) (et := t_int) (by kernel_rfl) (by kernel_rfl) rfl rfl rfl rfl rfl (row_of hc)) (by split <;> (rename_i hz; simp [hz]))) ?_
  refine zza ?_; refine AOps.nil (ARun.seq (ARun.block (ARun.seq (ARun.region ?_)))); refine zzm ?_
  refine y_op rfl (OpQ.cast (d' := .bool (decide (sclass p.conv = 0))) (q_int rfl rfl rfl) (congrArg D.bool (decide_eq_decide.2 (by omega)))) ?_
  refine zzm ?_
  apply AOps.orJ 35 (fun sj2 => [(35, .any), (36, .any), (37, .any), (38, .any), (39, .any), (40, .any), (41, .bool sj2)]) rfl
  · intro hj2 run2
    try replace hj2 := of_decide_eq_true hj2
    refine zzk ?_; refine zzk ?_; refine zzk ?_; refine zzk ?_; refine zzk ?_; refine zzp ?_
    exact AOps.ag run2
  · intro hj2 run2
    try replace hj2 := of_decide_eq_false hj2
    refine zzm ?_; refine zzf ?_; refine zzl ?_
    refine zzc rfl rfl (PC.g (ZfF ((sclass p.conv : Nat) : Int) p.len ⟨by omega, by have := sclass_le p.conv; omega⟩)) ?_
    refine zzn ?_; refine zzp ?_
    exact AOps.ag run2
  refine zzm ?_
  apply AOps.orJ 42 (fun sj3 => [(42, .any), (43, .any), (44, .any), (45, .any), (46, .bool sj3)]) rfl
  · intro hj3 run3
    try replace hj3 := of_decide_eq_true hj3
    refine zzk ?_; refine zzk ?_; refine zzk ?_; refine zzp ?_
    exact AOps.ag run3
  · intro hj3 run3
    try replace hj3 := of_decide_eq_false hj3
    refine zzf ?_; refine zzl ?_
    refine y_op rfl (OpQ.cast (ZfZ rfl rfl) (congrArg D.bool (show _ = !decide (sby p.lit = []) by rw [str_eq]; rfl))) ?_
    refine zzp ?_
    exact AOps.ag run3
  refine zzm ?_
  apply AOps.orJ 47 (fun sj4 => [(47, .any), (48, .any), (49, .any), (50, .any), (51, .bool sj4)]) rfl
  · intro hj4 run4
    try replace hj4 := of_decide_eq_true hj4
    refine zzk ?_; refine zzk ?_; refine zzk ?_; refine zzp ?_
    exact AOps.ag run4
  · intro hj4 run4
    try replace hj4 := of_decide_eq_false hj4
    refine zzf ?_; refine zzl ?_; refine zzi ?_; refine zzp ?_
    exact AOps.ag run4
  refine zzm ?_
  apply AOps.orJ 52 (fun sj5 => [(52, .any), (53, .any), (54, .any), (55, .any), (56, .bool sj5)]) rfl
  · intro hj5 run5
    try replace hj5 := of_decide_eq_true hj5
    refine zzk ?_; refine zzk ?_; refine zzk ?_; refine zzp ?_
    exact AOps.ag run5
  · intro hj5 run5
    try replace hj5 := of_decide_eq_false hj5
    refine zzf ?_; refine zzl ?_; refine zzi ?_; refine zzp ?_
    exact AOps.ag run5
  refine zzm ?_
  apply AOps.orJ 57 (fun sj6 => [(57, .any), (58, .any), (59, .any), (60, .any), (61, .bool sj6)]) rfl
  · intro hj6 run6
    try replace hj6 := of_decide_eq_true hj6
    refine zzk ?_; refine zzk ?_; refine zzk ?_; refine zzp ?_
    exact AOps.ag run6
  · intro hj6 run6
    try replace hj6 := of_decide_eq_false hj6
    refine zzf ?_; refine zzl ?_; refine zzi ?_; refine zzp ?_
    exact AOps.ag run6
  refine zzm ?_
  apply AOps.orJ 62 (fun sj7 => [(62, .any), (63, .any), (64, .any), (65, .any), (66, .bool sj7)]) rfl
  · intro hj7 run7
    try replace hj7 := of_decide_eq_true hj7
    refine zzk ?_; refine zzk ?_; refine zzk ?_; refine zzp ?_
    exact AOps.ag run7
  · intro hj7 run7
    try replace hj7 := of_decide_eq_false hj7
    refine zzf ?_; refine zzl ?_; refine zzi ?_; refine zzp ?_
    exact AOps.ag run7
  refine zza ?_; refine AOps.nil ?_
  refine ARun.cond rfl (fun u => ?_) (fun u => ?_)
  · skip
    have hu : ((((((decide (sclass p.conv = 0) || !decide (sby p.lit = [])) || decide (p.arg < 0)) || decide (p.arg > 64)) || decide (p.wid < 0)) || decide (p.wid > 10000)) || !slong ((sclass p.conv : Nat) : Int) p.len) = true := by
      rw [← u]; simp only [Bool.or_assoc, Bool.or_comm, Bool.or_left_comm]
    rw [hu, cond_true] at hR
    subst hR
    refine ARun.seq (ARun.region ?_); refine zza ?_; refine AOps.nil ?_
    refine ARun.ret ?_
    refine ⟨_, _, _, .tmp rfl .nil, .cons (.same _) .nil, rfl, ?_⟩
    rfl
  have hu : ((((((decide (sclass p.conv = 0) || !decide (sby p.lit = [])) || decide (p.arg < 0)) || decide (p.arg > 64)) || decide (p.wid < 0)) || decide (p.wid > 10000)) || !slong ((sclass p.conv : Nat) : Int) p.len) = false := by
    rw [← u]; simp only [Bool.or_assoc, Bool.or_comm, Bool.or_left_comm]
  rw [hu, cond_false] at hR
  clear u hu
  refine ARun.seq (ARun.region ?_); refine zzm ?_
  refine y_op rfl (OpQ.cast (d' := .bool (decide (p.conv = 110))) (q_int rfl rfl rfl) (congrArg D.bool (by rw [← sclass_n hc]; exact decide_eq_decide.2 (by omega)))) ?_
  refine zzm ?_
  apply AOps.andJ 70 (fun sj8 => [(70, .any), (71, .any), (72, .any), (73, .any), (74, .any), (75, .any), (76, .any), (77, .any), (78, .any), (79, .bool sj8)]) rfl
  · intro hj8 run8
    try replace hj8 := of_decide_eq_true hj8
    refine zzf ?_; refine zzl ?_
    refine y_op rfl (OpQ.cast (d' := .bool (decide (p.arg = 0))) (q_int rfl rfl rfl) rfl) ?_
    refine zzm ?_
    apply AOps.orJ 74 (fun sj9 => [(74, .any), (75, .any), (76, .any), (77, .any), (78, .bool sj9)]) rfl
    · intro hj9 run9
      try replace hj9 := of_decide_eq_true hj9
      refine zzk ?_; refine zzk ?_; refine zzk ?_; refine zzp ?_
      exact AOps.ag run9
    · intro hj9 run9
      try replace hj9 := of_decide_eq_false hj9
      refine zzf ?_; refine zzl ?_; refine zzi ?_; refine zzp ?_
      exact AOps.ag run9
    refine zzp ?_
    exact AOps.ag run8
  · intro hj8 run8
    try replace hj8 := of_decide_eq_false hj8
    refine zzk ?_; refine zzk ?_; refine zzk ?_; refine zzk ?_; refine zzk ?_; refine zzk ?_; refine zzk ?_; refine zzk ?_; refine zzp ?_
    exact AOps.ag run8
  refine zza ?_; refine AOps.nil ?_
  refine ARun.cond rfl (fun e => ?_) (fun e => ?_)
  · skip
    rw [e, cond_true] at hR
    subst hR
    refine ARun.seq (ARun.region ?_); refine zza ?_; refine AOps.nil ?_
    refine ARun.ret ?_
    refine ⟨_, _, _, .tmp rfl .nil, .cons (.same _) .nil, rfl, ?_⟩
    rfl
  rw [e, cond_false] at hR
  clear e
  refine ARun.seq (ARun.region ?_); refine zzf ?_; refine zzl ?_
  refine y_op rfl (OpQ.cast (q_int rfl rfl rfl) (congrArg D.bool (int_dec (m := 91) rfl))) ?_
  refine zza ?_; refine AOps.nil ?_
  refine ARun.ite rfl (fun f => ?_) (fun f => ?_)
  · skip
    rw [decide_eq_true f, cond_true] at hR
    subst hR
    refine ARun.seq (ARun.region ?_); refine zzf ?_; refine zzL ?_
    refine zzc rfl rfl (PC.g (ZbU p.set 0 (by decide))) ?_
    refine zzn ?_; refine zza ?_; refine AOps.nil ?_
    refine ARun.ret ?_
    refine ⟨_, _, _, .tmp rfl .nil, .cons (.same _) .nil, rfl, ?_⟩
    rfl
  rw [decide_eq_false f, cond_false] at hR
  subst hR
  refine ARun.skip (ARun.inBlock (ARun.seq (ARun.region ?_))); refine zzf ?_; refine zzL ?_; refine zzL ?_
  refine y_op rfl (ZgK rfl rfl) ?_
  refine zza ?_; refine AOps.nil ?_
  refine ARun.ret ?_
  refine ⟨_, _, _, .tmp rfl .nil, .cons (.same _) .nil, rfl, ?_⟩
  rfl
end Go.V
set_option maxHeartbeats 8000000
set_option maxRecDepth 100000
set_option synthInstance.maxSize 100000
set_option synthInstance.maxHeartbeats 2000000
namespace Go.V
open Go.RowKit Go.Proofs
theorem ZdZ (l : List Pc) (hw : ∀ p ∈ l, PcF p) (hl : l.length ≤ 1099511627776) : PC Cg Zd4 [slP l] (fun o => o = .ret (.tup [.int .i64 (scheck l).1, .int .i64 (scheck l).2])) := by
  obtain ⟨R, hR⟩ : ∃ R, R = scheck l := ⟨_, rfl⟩
  rw [← hR]
  unfold scheck at hR
  refine PC.rn Zb2 ZdG ZdH (rs := [.tmp 2, .tmp 3]) (by rw [ZdI]) ?_
  refine ARun.seq (ARun.region ?_); refine zza ?_; refine zza ?_; refine AOps.nil (ARun.seq (ARun.seq (ARun.region ?_))); refine zzm ?_; refine zzN ?_; refine zzi ?_; refine AOps.nil ?_
  refine ARun.ite rfl (fun a => ?_) (fun a => ?_)
  · skip
    rw [if_pos (show 500 < l.length by omega)] at hR
    subst hR
    refine ARun.seq (ARun.region ?_); refine zza ?_; refine zza ?_; refine AOps.nil ?_
    refine ARun.ret ?_
    refine ⟨_, _, _, .tmp rfl (.tmp rfl .nil), .cons (.same _) (.cons (.same _) .nil), rfl, ?_⟩
    rfl
  rw [if_neg (show ¬ 500 < l.length by omega)] at hR
  have a5 : l.length ≤ 500 := by omega
  clear a
  refine ARun.skip (ARun.seq (ARun.seq (ARun.region ?_))); refine zzm ?_; refine zzN ?_; refine zzm ?_; refine AOps.nil (ARun.block ?_)
  refine ARun.loopI (S := Nat) (fun i : Nat => [(2, .any), (3, .any), (4, .any), (5, .any), (14, .any), (15, .any), (16, .any), (17, .any), (18, .any), (19, .any), (20, .any), (21, .any), (22, .any), (23, .any), (24, .any), (25, .any), (26, .any), (27, .any), (28, .any), (29, .any), (30, .any), (31, .any), (32, .any), (33, .any), (34, .any), (35, .any), (36, .any), (37, .any), (38, .any), (39, .any), (40, .any), (41, .any), (42, .any), (43, .any), (44, .any), (45, .any), (46, .any), (47, .any), (13, .int .i64 (i : Int))]) (fun i : Nat => []) (fun i : Nat => i ≤ l.length ∧ R = schk l i ∧ ∀ j, j < i → svalid (l.getD j pcZ) = true) (fun i : Nat => l.length - i) (0) ?_ ?_ ?_ ?_
  · exact ⟨Nat.zero_le _, hR, fun j h => absurd h (Nat.not_lt_zero j)⟩
  · (repeat' first | exact envLe_nil | apply envLe_any | apply envLe_same)
  · rfl
  rintro i hinv ih
  obtain ⟨i1, i2, i3⟩ := hinv
  refine ARun.seq (ARun.region ?_); refine zzi ?_; refine AOps.nil (ARun.seq ?_)
  refine ARun.ite rfl (fun g => ?_) (fun g => ?_)
  · skip
    have g : i < l.length := by omega
    have hd := pcs_drop l i g
    have hne := pcs_ne g
    have hpw : PcF (l.getD i pcZ) := by rw [List.getD_eq_getElem?_getD, List.getElem?_eq_getElem g]; exact hw _ (List.getElem_mem g)
    obtain ⟨p, hp⟩ : ∃ p, p = l.getD i pcZ := ⟨_, rfl⟩
    rw [← hp] at hd hpw
    have hV := ZfS p hpw
    have hb : sbad l i = (!svalid p || sadj l i) := by rw [hp]; rfl
    have hset : svalid p = true → ∀ j, j < i + 1 → svalid (l.getD j pcZ) = true := fun h j hj => (Nat.lt_or_eq_of_le (Nat.le_of_lt_succ hj)).elim (i3 j) (fun e => by rw [e, ← hp]; exact h)
    cases v : svalid p
    · rw [v] at hV hb
      have hb : sbad l i = true := hb
      rw [schk_bad g hb] at i2
      subst i2
      refine ARun.skip (ARun.seq (ARun.block (ARun.seq (ARun.region ?_)))); refine zzm ?_
      refine y_op rfl (Zav rfl rfl rfl rfl (by omega) (by omega) hne hd) ?_
      refine zzL ?_
      refine Zcn rfl rfl rfl rfl rfl rfl (fun _ h => by cases h; decide) rfl rfl rfl rfl rfl rfl rfl (by decide) ?_
      refine AOps.nil (ARun.seq ?_)
      refine ARun.drawnP 28 (fun _ => False) mixC rfl rfl (by kernel_rfl) (fun _ _ h => h.elim) ?_
      refine .op rfl (ZaR rfl rfl rfl rfl rfl) ?_
      refine .op rfl (q_call rfl rfl (hV)) ?_
      refine .op rfl (q_not rfl) ?_
      refine .op rfl (q_move rfl) ?_
      refine .skip rfl ?_
      refine .skip rfl ?_
      refine .skip rfl ?_
      refine .skip rfl ?_
      refine .skip rfl ?_
      refine .skip rfl ?_
      refine .skip rfl ?_
      refine .skip rfl ?_
      refine .skip rfl ?_
      refine .skip rfl ?_
      refine .skip rfl ?_
      refine .skip rfl ?_
      refine .skip rfl ?_
      refine .skip rfl ?_
      refine .skip rfl ?_
      refine .skip rfl ?_
      refine .skip rfl ?_
      refine .skip rfl ?_
      refine .skip rfl ?_
      refine .skip rfl ?_
      refine .skip rfl ?_
      refine .skip rfl ?_
      refine .skip rfl ?_
      refine .op rfl (q_pick rfl rfl rfl rfl) ?_
      refine .nil (fun hG => ?_)
      refine AOps.nil ?_
      refine ARun.condT rfl ?_
      refine ARun.seq (ARun.region ?_); refine zzm ?_; refine zza ?_; refine zza ?_; refine AOps.nil ?_
      refine ARun.ret ?_
      refine ⟨_, _, _, .tmp rfl (.tmp rfl .nil), .cons (.same _) (.cons (.same _) .nil), rfl, ?_⟩
      rfl
    rw [v] at hV hb
    have hb : sbad l i = sadj l i := hb
    rcases Nat.eq_zero_or_pos i with h0 | h0
    · have hb : sbad l i = false := by rw [hb]; unfold sadj; rw [decide_eq_false (show ¬ 0 < i by omega)]; rfl
      rw [schk_go g hb] at i2
      refine ARun.skip (ARun.seq (ARun.block (ARun.seq (ARun.region ?_)))); refine zzm ?_
      refine y_op rfl (Zav rfl rfl rfl rfl (by omega) (by omega) hne hd) ?_
      refine zzL ?_
      refine Zcn rfl rfl rfl rfl rfl rfl (fun _ h => by cases h; decide) rfl rfl rfl rfl rfl rfl rfl (by decide) ?_
      refine AOps.nil (ARun.seq ?_)
      refine ARun.drawnP 28 (fun _ => False) mixC rfl rfl (by kernel_rfl) (fun _ _ h => h.elim) ?_
      refine .op rfl (ZaR rfl rfl rfl rfl rfl) ?_
      refine .op rfl (q_call rfl rfl (hV)) ?_
      refine .op rfl (q_not rfl) ?_
      refine .op rfl (q_move rfl) ?_
      refine .op rfl (q_move rfl) ?_
      refine .op rfl (OpQ.cast (d' := .bool false) (q_int rfl rfl rfl) (congrArg D.bool (decide_eq_false (by omega)))) ?_
      refine .op rfl (q_move rfl) ?_
      refine .skip rfl ?_
      refine .skip rfl ?_
      refine .skip rfl ?_
      refine .skip rfl ?_
      refine .skip rfl ?_
      refine .skip rfl ?_
      refine .skip rfl ?_
      refine .skip rfl ?_
      refine .skip rfl ?_
      refine .op rfl (q_pick rfl rfl rfl rfl) ?_
      refine .op rfl (q_move rfl) ?_
      refine .skip rfl ?_
      refine .skip rfl ?_
      refine .skip rfl ?_
      refine .skip rfl ?_
      refine .skip rfl ?_
      refine .skip rfl ?_
      refine .skip rfl ?_
      refine .skip rfl ?_
      refine .op rfl (q_pick rfl rfl rfl rfl) ?_
      refine .op rfl (q_pick rfl rfl rfl rfl) ?_
      refine .nil (fun hG => ?_)
      refine AOps.nil ?_
      refine ARun.condF rfl ?_
      refine ARun.skip (ARun.inBlock (ARun.region ?_))
      refine y_op rfl (q_add rfl rfl (nadd1_i64 (by omega))) ?_
      refine zzm ?_; refine AOps.nil ?_
      refine ARun.again (ih (i + 1) ?_ ?_) ?_ ?_
      · exact ⟨g, i2, hset v⟩
      · omega
      · (repeat' first | exact envLe_nil | apply envLe_any | apply envLe_same)
      rfl
    have hdr := pcs_drop l (i - 1) (by omega)
    have hb : sbad l i = (decide (p.conv = (l.getD (i - 1) pcZ).conv) && (decide (p.conv = 0) || decide (p.conv = 32))) := by rw [hb]; unfold sadj; rw [decide_eq_true h0, Bool.true_and, ← hp]
    generalize l.getD (i - 1) pcZ = r at *
    by_cases hcc : p.conv = r.conv
    · rw [decide_eq_true hcc, Bool.true_and] at hb
      by_cases hz : p.conv = 0
      · rw [decide_eq_true hz, Bool.true_or] at hb
        rw [schk_bad g hb] at i2
        subst i2
        refine ARun.skip (ARun.seq (ARun.block (ARun.seq (ARun.region ?_)))); refine zzm ?_
        refine y_op rfl (Zav rfl rfl rfl rfl (by omega) (by omega) hne hd) ?_
        refine zzL ?_
        refine Zcn rfl rfl rfl rfl rfl rfl (fun _ h => by cases h; decide) rfl rfl rfl rfl rfl rfl rfl (by decide) ?_
        refine AOps.nil (ARun.seq ?_)
        refine ARun.drawnP 28 (fun _ => False) mixC rfl rfl (by kernel_rfl) (fun _ _ h => h.elim) ?_
        refine .op rfl (ZaR rfl rfl rfl rfl rfl) ?_
        refine .op rfl (q_call rfl rfl (hV)) ?_
        refine .op rfl (q_not rfl) ?_
        refine .op rfl (q_move rfl) ?_
        refine .op rfl (q_move rfl) ?_
        refine .op rfl (OpQ.cast (d' := .bool true) (q_int rfl rfl rfl) (congrArg D.bool (decide_eq_true (by omega)))) ?_
        refine .op rfl (q_move rfl) ?_
        refine .op rfl (q_fldS rfl rfl rfl (by decide)) ?_
        refine .op rfl (q_load rfl rfl rfl rfl) ?_
        refine .op rfl (q_move rfl) ?_
        refine .op rfl (q_move rfl) ?_
        refine .op rfl (OpQ.cast (d' := .int .i64 ((i - 1 : Nat) : Int)) (q_int rfl rfl rfl) (congrArg (D.int .i64) (by show IntKind.i64.wrap _ = _; rw [IntWalk.i64_in _ (by omega)]; omega))) ?_
        refine .op rfl (Zav rfl rfl rfl rfl (by omega) (by omega) hne hdr) ?_
        refine .op rfl (q_fldS rfl rfl rfl (by decide)) ?_
        refine .op rfl (q_load rfl rfl rfl rfl) ?_
        refine .op rfl (OpQ.cast (d' := .bool true) (q_int rfl rfl rfl) (congrArg D.bool ((int_dec (m := r.conv) rfl).trans (decide_eq_true hcc)))) ?_
        refine .op rfl (q_pick rfl rfl rfl rfl) ?_
        refine .op rfl (q_move rfl) ?_
        refine .op rfl (q_fldS rfl rfl rfl (by decide)) ?_
        refine .op rfl (q_load rfl rfl rfl rfl) ?_
        refine .op rfl (OpQ.cast (d' := .bool true) (q_int rfl rfl rfl) (congrArg D.bool ((int_dec (m := 0) rfl).trans (decide_eq_true hz)))) ?_
        refine .op rfl (q_move rfl) ?_
        refine .skip rfl ?_
        refine .skip rfl ?_
        refine .skip rfl ?_
        refine .op rfl (q_pick rfl rfl rfl rfl) ?_
        refine .op rfl (q_pick rfl rfl rfl rfl) ?_
        refine .op rfl (q_pick rfl rfl rfl rfl) ?_
        refine .nil (fun hG => ?_)
        refine AOps.nil ?_
        refine ARun.condT rfl ?_
        refine ARun.seq (ARun.region ?_); refine zzm ?_; refine zza ?_; refine zza ?_; refine AOps.nil ?_
        refine ARun.ret ?_
        refine ⟨_, _, _, .tmp rfl (.tmp rfl .nil), .cons (.same _) (.cons (.same _) .nil), rfl, ?_⟩
        rfl
      rw [decide_eq_false hz, Bool.false_or] at hb
      by_cases ht : p.conv = 32
      · rw [decide_eq_true ht] at hb
        rw [schk_bad g hb] at i2
        subst i2
        refine ARun.skip (ARun.seq (ARun.block (ARun.seq (ARun.region ?_)))); refine zzm ?_
        refine y_op rfl (Zav rfl rfl rfl rfl (by omega) (by omega) hne hd) ?_
        refine zzL ?_
        refine Zcn rfl rfl rfl rfl rfl rfl (fun _ h => by cases h; decide) rfl rfl rfl rfl rfl rfl rfl (by decide) ?_
        refine AOps.nil (ARun.seq ?_)
        refine ARun.drawnP 28 (fun _ => False) mixC rfl rfl (by kernel_rfl) (fun _ _ h => h.elim) ?_
        refine .op rfl (ZaR rfl rfl rfl rfl rfl) ?_
        refine .op rfl (q_call rfl rfl (hV)) ?_
        refine .op rfl (q_not rfl) ?_
        refine .op rfl (q_move rfl) ?_
        refine .op rfl (q_move rfl) ?_
        refine .op rfl (OpQ.cast (d' := .bool true) (q_int rfl rfl rfl) (congrArg D.bool (decide_eq_true (by omega)))) ?_
        refine .op rfl (q_move rfl) ?_
        refine .op rfl (q_fldS rfl rfl rfl (by decide)) ?_
        refine .op rfl (q_load rfl rfl rfl rfl) ?_
        refine .op rfl (q_move rfl) ?_
        refine .op rfl (q_move rfl) ?_
        refine .op rfl (OpQ.cast (d' := .int .i64 ((i - 1 : Nat) : Int)) (q_int rfl rfl rfl) (congrArg (D.int .i64) (by show IntKind.i64.wrap _ = _; rw [IntWalk.i64_in _ (by omega)]; omega))) ?_
        refine .op rfl (Zav rfl rfl rfl rfl (by omega) (by omega) hne hdr) ?_
        refine .op rfl (q_fldS rfl rfl rfl (by decide)) ?_
        refine .op rfl (q_load rfl rfl rfl rfl) ?_
        refine .op rfl (OpQ.cast (d' := .bool true) (q_int rfl rfl rfl) (congrArg D.bool ((int_dec (m := r.conv) rfl).trans (decide_eq_true hcc)))) ?_
        refine .op rfl (q_pick rfl rfl rfl rfl) ?_
        refine .op rfl (q_move rfl) ?_
        refine .op rfl (q_fldS rfl rfl rfl (by decide)) ?_
        refine .op rfl (q_load rfl rfl rfl rfl) ?_
        refine .op rfl (OpQ.cast (d' := .bool false) (q_int rfl rfl rfl) (congrArg D.bool ((int_dec (m := 0) rfl).trans (decide_eq_false hz)))) ?_
        refine .op rfl (q_move rfl) ?_
        refine .op rfl (q_fldS rfl rfl rfl (by decide)) ?_
        refine .op rfl (q_load rfl rfl rfl rfl) ?_
        refine .op rfl (OpQ.cast (d' := .bool true) (q_int rfl rfl rfl) (congrArg D.bool ((int_dec (m := 32) rfl).trans (decide_eq_true ht)))) ?_
        refine .op rfl (q_pick rfl rfl rfl rfl) ?_
        refine .op rfl (q_pick rfl rfl rfl rfl) ?_
        refine .op rfl (q_pick rfl rfl rfl rfl) ?_
        refine .nil (fun hG => ?_)
        refine AOps.nil ?_
        refine ARun.condT rfl ?_
        refine ARun.seq (ARun.region ?_); refine zzm ?_; refine zza ?_; refine zza ?_; refine AOps.nil ?_
        refine ARun.ret ?_
        refine ⟨_, _, _, .tmp rfl (.tmp rfl .nil), .cons (.same _) (.cons (.same _) .nil), rfl, ?_⟩
        rfl
      rw [decide_eq_false ht] at hb
      rw [schk_go g hb] at i2
      refine ARun.skip (ARun.seq (ARun.block (ARun.seq (ARun.region ?_)))); refine zzm ?_
      refine y_op rfl (Zav rfl rfl rfl rfl (by omega) (by omega) hne hd) ?_
      refine zzL ?_
      refine Zcn rfl rfl rfl rfl rfl rfl (fun _ h => by cases h; decide) rfl rfl rfl rfl rfl rfl rfl (by decide) ?_
      refine AOps.nil (ARun.seq ?_)
      refine ARun.drawnP 28 (fun _ => False) mixC rfl rfl (by kernel_rfl) (fun _ _ h => h.elim) ?_
      refine .op rfl (ZaR rfl rfl rfl rfl rfl) ?_
      refine .op rfl (q_call rfl rfl (hV)) ?_
      refine .op rfl (q_not rfl) ?_
      refine .op rfl (q_move rfl) ?_
      refine .op rfl (q_move rfl) ?_
      refine .op rfl (OpQ.cast (d' := .bool true) (q_int rfl rfl rfl) (congrArg D.bool (decide_eq_true (by omega)))) ?_
      refine .op rfl (q_move rfl) ?_
      refine .op rfl (q_fldS rfl rfl rfl (by decide)) ?_
      refine .op rfl (q_load rfl rfl rfl rfl) ?_
      refine .op rfl (q_move rfl) ?_
      refine .op rfl (q_move rfl) ?_
      refine .op rfl (OpQ.cast (d' := .int .i64 ((i - 1 : Nat) : Int)) (q_int rfl rfl rfl) (congrArg (D.int .i64) (by show IntKind.i64.wrap _ = _; rw [IntWalk.i64_in _ (by omega)]; omega))) ?_
      refine .op rfl (Zav rfl rfl rfl rfl (by omega) (by omega) hne hdr) ?_
      refine .op rfl (q_fldS rfl rfl rfl (by decide)) ?_
      refine .op rfl (q_load rfl rfl rfl rfl) ?_
      refine .op rfl (OpQ.cast (d' := .bool true) (q_int rfl rfl rfl) (congrArg D.bool ((int_dec (m := r.conv) rfl).trans (decide_eq_true hcc)))) ?_
      refine .op rfl (q_pick rfl rfl rfl rfl) ?_
      refine .op rfl (q_move rfl) ?_
      refine .op rfl (q_fldS rfl rfl rfl (by decide)) ?_
      refine .op rfl (q_load rfl rfl rfl rfl) ?_
      refine .op rfl (OpQ.cast (d' := .bool false) (q_int rfl rfl rfl) (congrArg D.bool ((int_dec (m := 0) rfl).trans (decide_eq_false hz)))) ?_
      refine .op rfl (q_move rfl) ?_
      refine .op rfl (q_fldS rfl rfl rfl (by decide)) ?_
      refine .op rfl (q_load rfl rfl rfl rfl) ?_
      refine .op rfl (OpQ.cast (d' := .bool false) (q_int rfl rfl rfl) (congrArg D.bool ((int_dec (m := 32) rfl).trans (decide_eq_false ht)))) ?_
      refine .op rfl (q_pick rfl rfl rfl rfl) ?_
      refine .op rfl (q_pick rfl rfl rfl rfl) ?_
      refine .op rfl (q_pick rfl rfl rfl rfl) ?_
      refine .nil (fun hG => ?_)
      refine AOps.nil ?_
      refine ARun.condF rfl ?_
      refine ARun.skip (ARun.inBlock (ARun.region ?_))
      refine y_op rfl (q_add rfl rfl (nadd1_i64 (by omega))) ?_
      refine zzm ?_; refine AOps.nil ?_
      refine ARun.again (ih (i + 1) ?_ ?_) ?_ ?_
      · exact ⟨g, i2, hset v⟩
      · omega
      · (repeat' first | exact envLe_nil | apply envLe_any | apply envLe_same)
      rfl
    rw [decide_eq_false hcc, Bool.false_and] at hb
    rw [schk_go g hb] at i2
    refine ARun.skip (ARun.seq (ARun.block (ARun.seq (ARun.region ?_)))); refine zzm ?_
    refine y_op rfl (Zav rfl rfl rfl rfl (by omega) (by omega) hne hd) ?_
    refine zzL ?_
    refine Zcn rfl rfl rfl rfl rfl rfl (fun _ h => by cases h; decide) rfl rfl rfl rfl rfl rfl rfl (by decide) ?_
    refine AOps.nil (ARun.seq ?_)
    refine ARun.drawnP 28 (fun _ => False) mixC rfl rfl (by kernel_rfl) (fun _ _ h => h.elim) ?_
    refine .op rfl (ZaR rfl rfl rfl rfl rfl) ?_
    refine .op rfl (q_call rfl rfl (hV)) ?_
    refine .op rfl (q_not rfl) ?_
    refine .op rfl (q_move rfl) ?_
    refine .op rfl (q_move rfl) ?_
    refine .op rfl (OpQ.cast (d' := .bool true) (q_int rfl rfl rfl) (congrArg D.bool (decide_eq_true (by omega)))) ?_
    refine .op rfl (q_move rfl) ?_
    refine .op rfl (q_fldS rfl rfl rfl (by decide)) ?_
    refine .op rfl (q_load rfl rfl rfl rfl) ?_
    refine .op rfl (q_move rfl) ?_
    refine .op rfl (q_move rfl) ?_
    refine .op rfl (OpQ.cast (d' := .int .i64 ((i - 1 : Nat) : Int)) (q_int rfl rfl rfl) (congrArg (D.int .i64) (by show IntKind.i64.wrap _ = _; rw [IntWalk.i64_in _ (by omega)]; omega))) ?_
    refine .op rfl (Zav rfl rfl rfl rfl (by omega) (by omega) hne hdr) ?_
    refine .op rfl (q_fldS rfl rfl rfl (by decide)) ?_
    refine .op rfl (q_load rfl rfl rfl rfl) ?_
    refine .op rfl (OpQ.cast (d' := .bool false) (q_int rfl rfl rfl) (congrArg D.bool ((int_dec (m := r.conv) rfl).trans (decide_eq_false hcc)))) ?_
    refine .op rfl (q_pick rfl rfl rfl rfl) ?_
    refine .op rfl (q_move rfl) ?_
    refine .skip rfl ?_
    refine .skip rfl ?_
    refine .skip rfl ?_
    refine .skip rfl ?_
    refine .skip rfl ?_
    refine .skip rfl ?_
    refine .skip rfl ?_
    refine .skip rfl ?_
    refine .op rfl (q_pick rfl rfl rfl rfl) ?_
    refine .op rfl (q_pick rfl rfl rfl rfl) ?_
    refine .nil (fun hG => ?_)
    refine AOps.nil ?_
    refine ARun.condF rfl ?_
    refine ARun.skip (ARun.inBlock (ARun.region ?_))
    refine y_op rfl (q_add rfl rfl (nadd1_i64 (by omega))) ?_
    refine zzm ?_; refine AOps.nil ?_
    refine ARun.again (ih (i + 1) ?_ ?_) ?_ ?_
    · exact ⟨g, i2, hset v⟩
    · omega
    · (repeat' first | exact envLe_nil | apply envLe_any | apply envLe_same)
    rfl
  obtain rfl : i = l.length := by omega
  rw [schk_end (by omega)] at i2
  have hga := ZeJ l hl (fun p hp => by
    obtain ⟨j, hj, e⟩ := List.getElem_of_mem hp
    have := i3 j hj
    rw [List.getD_eq_getElem?_getD, List.getElem?_eq_getElem hj] at this
    rw [← e]
    exact svalid_arg this)
  generalize sgr l = y at *
  refine ARun.exit rfl ?_
  refine ARun.seq (ARun.seq (ARun.region ?_)); refine zzm ?_
  refine zzc rfl rfl (PC.g hga) ?_
  refine zzm ?_; refine zze ?_; refine zze ?_; refine zza ?_; refine zza ?_; refine AOps.nil (ARun.seq (ARun.region ?_)); refine zzm ?_; refine AOps.nil ?_
  refine ARun.cond rfl (fun u => ?_) (fun u => ?_)
  · skip
    have u : y.2 = false := by simpa using u
    rw [u, cond_false] at i2
    subst i2
    refine ARun.seq (ARun.region ?_); refine zzm ?_; refine zzN ?_; refine zza ?_; refine zza ?_; refine AOps.nil ?_
    refine ARun.ret ?_
    refine ⟨_, _, _, .tmp rfl (.tmp rfl .nil), .cons (.same _) (.cons (.same _) .nil), rfl, ?_⟩
    rfl
  have u : y.2 = true := by simpa using u
  rw [u, cond_true] at i2
  subst i2
  refine ARun.skip (ARun.seq (ARun.region ?_)); refine zza ?_; refine zza ?_; refine AOps.nil ?_
  refine ARun.ret ?_
  refine ⟨_, _, _, .tmp rfl (.tmp rfl .nil), .cons (.same _) (.cons (.same _) .nil), rfl, ?_⟩
  rfl
theorem Zfj (l : List Pc) (hw : ∀ p ∈ l, PcF p) (hl : l.length ≤ 1099511627776) : PC Cg ZcM [slP l] (fun o => o = .ret (.tup [.int .i64 (sArgs l).1, .int .i64 (sArgs l).2])) := by
  obtain ⟨R, hR⟩ : ∃ R, R = sArgs l := ⟨_, rfl⟩
  rw [← hR]
  unfold sArgs at hR
  have hC := ZdZ l hw hl
  have hA := fun h => ZeJ l hl (scheck_arg h)
  generalize scheck l = c at *
  generalize sgr l = y at *
  refine PC.rn Zcw Zd5 Zd6 (rs := [.tmp 2, .tmp 3]) (by rw [Zd7]) ?_
  refine ARun.seq (ARun.region ?_); refine zza ?_; refine zza ?_; refine AOps.nil (ARun.seq (ARun.seq (ARun.region ?_))); refine zzm ?_
  refine zzc rfl rfl (hC) ?_
  refine zzm ?_; refine zze ?_; refine zze ?_; refine zza ?_; refine zza ?_; refine AOps.nil (ARun.seq (ARun.region ?_)); refine zzm ?_
  refine y_op rfl (OpQ.cast (d' := .bool (!decide (c.1 = 0))) (q_int rfl rfl rfl) (congrArg D.bool (by rw [Bool.eq_iff_iff]; simp))) ?_
  refine AOps.nil ?_
  refine ARun.cond rfl (fun u => ?_) (fun u => ?_)
  · skip
    have u : ¬ c.1 = 0 := by simpa using u
    rw [if_neg u] at hR
    subst hR
    refine ARun.seq (ARun.region ?_); refine zzm ?_; refine zza ?_; refine zza ?_; refine AOps.nil ?_
    refine ARun.ret ?_
    refine ⟨_, _, _, .tmp rfl (.tmp rfl .nil), .cons (.same _) (.cons (.same _) .nil), rfl, ?_⟩
    rfl
  have u : c.1 = 0 := by simpa using u
  rw [if_pos u] at hR
  subst hR
  refine ARun.skip (ARun.seq (ARun.region ?_)); refine zzm ?_
  refine zzc rfl rfl (PC.g (hA u)) ?_
  refine zzm ?_; refine zze ?_; refine zze ?_; refine zza ?_; refine zza ?_; refine AOps.nil (ARun.seq (ARun.region ?_)); refine zzm ?_; refine zza ?_; refine zza ?_; refine AOps.nil ?_
  refine ARun.ret ?_
  refine ⟨_, _, _, .tmp rfl (.tmp rfl .nil), .cons (.same _) (.cons (.same _) .nil), rfl, ?_⟩
  rfl
theorem Zfk (l : List Pc) (hw : ∀ p ∈ l, PcF p) (hl : l.length ≤ 1099511627776) : PC Cg ZbK [slP l] (fun o => o = .ret (.tup [.bool (sOrd l).1, .int .i64 (sOrd l).2])) := by
  obtain ⟨R, hR⟩ : ∃ R, R = sOrd l := ⟨_, rfl⟩
  rw [← hR]
  unfold sOrd at hR
  have hC := ZdZ l hw hl
  have hO := Zd1 l hl
  generalize scheck l = c at *
  generalize sord l 0 = y at *
  refine PC.rn Zbz Zc6 Zc7 (rs := [.tmp 2, .tmp 3]) (by rw [Zc8]) ?_
  refine ARun.seq (ARun.region ?_); refine zza ?_; refine zza ?_; refine AOps.nil (ARun.seq (ARun.seq (ARun.region ?_))); refine zzm ?_
  refine zzc rfl rfl (hC) ?_
  refine zzm ?_; refine zze ?_; refine zze ?_; refine zza ?_; refine zza ?_; refine AOps.nil (ARun.seq (ARun.region ?_)); refine zzm ?_
  refine y_op rfl (OpQ.cast (d' := .bool (!decide (c.1 = 0))) (q_int rfl rfl rfl) (congrArg D.bool (by rw [Bool.eq_iff_iff]; simp))) ?_
  refine AOps.nil ?_
  refine ARun.cond rfl (fun u => ?_) (fun u => ?_)
  · skip
    have u : ¬ c.1 = 0 := by simpa using u
    rw [if_neg u] at hR
    subst hR
    refine ARun.seq (ARun.region ?_); refine zzm ?_; refine zza ?_; refine zza ?_; refine AOps.nil ?_
    refine ARun.ret ?_
    refine ⟨_, _, _, .tmp rfl (.tmp rfl .nil), .cons (.same _) (.cons (.same _) .nil), rfl, ?_⟩
    rfl
  have u : c.1 = 0 := by simpa using u
  rw [if_pos u] at hR
  subst hR
  refine ARun.skip (ARun.seq (ARun.region ?_)); refine zzm ?_
  refine zzc rfl rfl (PC.g hO) ?_
  refine zza ?_; refine zza ?_; refine AOps.nil ?_
  refine ARun.ret ?_
  refine ⟨_, _, _, .tmp rfl (.tmp rfl .nil), .cons (.same _) (.cons (.same _) .nil), rfl, ?_⟩
  rfl
end Go.V
set_option maxHeartbeats 8000000
set_option maxRecDepth 100000
set_option synthInstance.maxSize 100000
set_option synthInstance.maxHeartbeats 2000000
namespace Go.V
open Go.RowKit Go.Proofs
theorem enc_ascii {c : Nat} (h : c < 128) : Utf8.encode (c : Int) = bytesOf [c] := by
  have : ∀ c : _root_.Fin 128, Utf8.encode (c.val : Int) = bytesOf [c.val] := by decide
  exact this ⟨c, h⟩
theorem Zf9 {C : Ctx} {env : List D} {H : Heap} {dst : Option Tmp} {x : Operand} {ty : TypeId} {pos : String} {aft : Array Edge} {gd : Option (Nat × Bool)} {k : IntKind} {c : Nat} {src T : TypeId} (hs : (C.P.underlying src).isSome = true) (hd : C.P.underlying T = some .string) (hx : evO C env x = some (.int k (c : Int))) (h : c < 128) :
    OpQ C ⟨dst, .convert src T x, ty, pos, aft, gd⟩ env H (.str (bytesOf [c])) :=
  OpQ.of_run fun L w μ a he => by
    have ex := he _ _ hx
    simp only [VR] at ex
    refine ⟨.string (bytesOf [c]), ?_, by simp only [VR]⟩
    simp only [execOp, ex, Sem.run_bind, run_convert_int_string w src T k (c : Int) hs hd, Result.andThen_ok, Sem.run_pure, enc_ascii h]
theorem sclass_ascii {c : Nat} (h : c < 256) (hc : sclass c ≠ 0) : c < 128 := by
  have : ∀ c : _root_.Fin 256, sclass c.val ≠ 0 → c.val < 128 := by decide
  exact this ⟨c, h⟩ hc
theorem svalid_conv {p : Pc} (h : svalid p = true) (hs : spl p = false) : sclass p.conv ≠ 0 := by
  unfold svalid at h
  rw [hs, cond_false] at h
  intro e
  rw [decide_eq_true e] at h
  simp at h
theorem ZeK (p : Pc) (ord : Bool) (ha : 0 ≤ p.arg ∧ p.arg ≤ 64) (hwd : 0 ≤ p.wid ∧ p.wid ≤ 10000) (hln : 0 ≤ p.len ∧ p.len ≤ 11) (hc : p.conv < 128) : PC Cg ZcP [pcA p, .bool ord] (fun o => o = .ret (.str (bytesOf (sconv p (!ord))))) := by
  obtain ⟨R, hR⟩ : ∃ R, R = sconv p (!ord) := ⟨_, rfl⟩
  rw [← hR]
  unfold sconv at hR
  have hna : PC Cg ZbV [.int .i64 p.arg] (fun o => o = .ret (.str (bytesOf (dnum p.arg.toNat)))) := by
    have := Zf6 p.arg.toNat (by omega)
    rwa [Int.toNat_of_nonneg ha.1] at this
  have hnw : PC Cg ZbV [.int .i64 p.wid] (fun o => o = .ret (.str (bytesOf (dnum p.wid.toNat)))) := by
    have := Zf6 p.wid.toNat (by omega)
    rwa [Int.toNat_of_nonneg hwd.1] at this
  have hda := dnum_len p.arg.toNat
  have hdw := dnum_len p.wid.toNat
  refine PC.rn Zba ZcD ZcE (rs := [.tmp 4]) (by rw [ZcF]) ?_
  refine ARun.seq (ARun.region ?_); refine zzb ?_; refine zza ?_; refine AOps.nil (ARun.seq (ARun.region ?_)); refine zza ?_; refine AOps.nil (ARun.seq ?_)
  refine ARun.join (S := List Nat) (fun P : List Nat => [(5, .str (bytesOf P)), (8, .any), (9, .any), (10, .any), (11, .any), (12, .any), (13, .any), (14, .any), (15, .any), (16, .any), (17, .any), (18, .any), (19, .any), (20, .any), (21, .any), (22, .any)]) (fun P : List Nat => P.length ≤ 100 ∧ R = P ++ (pWid p ++ (lensN.getD p.len.toNat [] ++ ([p.conv] ++ pSet p)))) (fun run => ?_) ?_
  · skip
    unfold pHead at hR
    refine ARun.block (ARun.seq (ARun.region ?_)); refine zzf ?_; refine zzl ?_
    refine y_op rfl (OpQ.cast (d' := .bool (decide (p.arg = 0))) (q_int rfl rfl rfl) rfl) ?_
    refine zza ?_; refine AOps.nil ?_
    refine ARun.ite rfl (fun e => ?_) (fun e => ?_)
    · skip
      rw [if_pos e] at hR
      refine ARun.region ?_; refine zzm ?_
      refine y_op rfl (OpQ.cast (d' := .str (bytesOf ([37, 42]))) (ZaW (s := bytesOf [37]) (t := bytesOf [42]) rfl rfl (by rw [bytesOf_size, bytesOf_size]; decide)) rfl) ?_
      refine zza ?_; refine AOps.nil (ARun.inBlock ?_)
      exact ARun.ag (run ([37, 42]) (⟨by simp, hR⟩))
    rw [if_neg e] at hR
    refine ARun.seq (ARun.region ?_); refine zzm ?_; refine zzn ?_; refine zza ?_; refine AOps.nil ?_
    refine ARun.cond rfl (fun f => ?_) (fun f => ?_)
    · skip
      rw [f, cond_true] at hR
      refine ARun.region ?_; refine zzm ?_; refine zzf ?_; refine zzl ?_
      refine zzc rfl rfl (hna) ?_
      refine y_op rfl (OpQ.cast (d' := .str (bytesOf (dnum p.arg.toNat ++ [36]))) (ZaW (s := bytesOf (dnum p.arg.toNat)) (t := bytesOf [36]) rfl rfl (by rw [bytesOf_size, bytesOf_size]; (try simp only [List.length_append, List.length_cons, List.length_nil]); omega)) (congrArg D.str (bytesOf_append (dnum p.arg.toNat) [36]).symm)) ?_
      refine y_op rfl (OpQ.cast (d' := .str (bytesOf ([37] ++ (dnum p.arg.toNat ++ [36])))) (ZaW (s := bytesOf [37]) (t := bytesOf (dnum p.arg.toNat ++ [36])) rfl rfl (by rw [bytesOf_size, bytesOf_size]; (try simp only [List.length_append, List.length_cons, List.length_nil]); omega)) (congrArg D.str (bytesOf_append [37] (dnum p.arg.toNat ++ [36])).symm)) ?_
      refine zza ?_; refine AOps.nil (ARun.inBlock ?_)
      exact ARun.ag (run ([37] ++ (dnum p.arg.toNat ++ [36])) (⟨by simp only [List.length_append, List.length_cons, List.length_nil]; omega, by rw [hR]; simp⟩))
    rw [f, cond_false] at hR
    refine ARun.skip (ARun.inBlock ?_)
    exact ARun.ag (run ([37]) (⟨by simp, hR⟩))
  rintro P hj
  try dsimp only at hj ⊢
  obtain ⟨p1, p2⟩ := hj
  clear hR
  refine ARun.seq (ARun.seq (ARun.region ?_)); refine zzf ?_; refine zzl ?_; refine zzi ?_; refine AOps.nil ?_
  refine ARun.join (S := List Nat) (fun P1 : List Nat => [(5, .str (bytesOf P1)), (26, .any), (27, .any), (28, .any), (29, .any), (30, .any)]) (fun P1 : List Nat => P1.length ≤ 20000 ∧ R = P1 ++ (lensN.getD p.len.toNat [] ++ ([p.conv] ++ pSet p))) (fun run => ?_) ?_
  · skip
    unfold pWid at p2
    refine ARun.ite rfl (fun e => ?_) (fun e => ?_)
    · skip
      rw [if_pos e, ← List.append_assoc] at p2
      refine ARun.region ?_; refine zzm ?_; refine zzf ?_; refine zzl ?_
      refine zzc rfl rfl (hnw) ?_
      refine y_op rfl (OpQ.cast (d' := .str (bytesOf (P ++ dnum p.wid.toNat))) (ZaW (s := bytesOf (P)) (t := bytesOf (dnum p.wid.toNat)) rfl rfl (by rw [bytesOf_size, bytesOf_size]; (try simp only [List.length_append, List.length_cons, List.length_nil]); omega)) (congrArg D.str (bytesOf_append (P) (dnum p.wid.toNat)).symm)) ?_
      refine zza ?_; refine AOps.nil ?_
      exact ARun.ag (run (P ++ dnum p.wid.toNat) (⟨by rw [List.length_append]; omega, p2⟩))
    rw [if_neg e] at p2
    refine ARun.skip ?_
    exact ARun.ag (run (P) (⟨by omega, p2⟩))
  rintro P1 hj
  try dsimp only at hj ⊢
  obtain ⟨r1, r2⟩ := hj
  clear p1 p2
  have hlg := lensA_get p.len.toNat (by omega)
  have hll := lensN_len p.len.toNat
  generalize lensN.getD p.len.toNat [] = LL at *
  refine ARun.seq ?_
  refine ARun.drawnP 11 (fun _ => False) mixC rfl rfl (by kernel_rfl) (fun _ _ h => h.elim) ?_
  refine .op rfl (q_move rfl) ?_
  refine .op rfl (q_fldS rfl rfl rfl (by decide)) ?_
  refine .op rfl (q_load rfl rfl rfl rfl) ?_
  refine .op rfl (Zb0 rfl rfl rfl rfl (by omega) (by omega) rfl) ?_
  refine .op rfl (q_load rfl rfl rfl hlg) ?_
  refine .op rfl (q_fldS rfl rfl rfl (by decide)) ?_
  refine .op rfl (q_load rfl rfl rfl rfl) ?_
  refine .op rfl (q_conv rfl rfl rfl (show _ = (p.conv : Int) by rw [IntWalk.i32_in _ (by omega)])) ?_
  refine .op rfl (Zf9 (by kernel_rfl) (by kernel_rfl) rfl hc) ?_
  refine .op rfl (OpQ.cast (d' := .str (bytesOf (LL ++ [p.conv]))) (ZaW (s := bytesOf LL) (t := bytesOf [p.conv]) rfl rfl (by rw [bytesOf_size, bytesOf_size]; (try simp only [List.length_append, List.length_cons, List.length_nil]); omega)) (congrArg D.str (bytesOf_append LL [p.conv]).symm)) ?_
  refine .op rfl (OpQ.cast (d' := .str (bytesOf (P1 ++ (LL ++ [p.conv])))) (ZaW (s := bytesOf P1) (t := bytesOf (LL ++ [p.conv])) rfl rfl (by rw [bytesOf_size, bytesOf_size]; (try simp only [List.length_append, List.length_cons, List.length_nil]); omega)) (congrArg D.str (bytesOf_append P1 (LL ++ [p.conv])).symm)) ?_
  refine .nil (fun hG => ?_)
  refine zza ?_; refine AOps.nil (ARun.seq (ARun.seq (ARun.region ?_))); refine zzf ?_; refine zzl ?_; refine zzi ?_
  rw [show P1 ++ (LL ++ ([p.conv] ++ pSet p)) = (P1 ++ (LL ++ [p.conv])) ++ pSet p by simp] at r2
  obtain ⟨P2, hP2⟩ : ∃ P2, P2 = P1 ++ (LL ++ [p.conv]) := ⟨_, rfl⟩
  rw [← hP2] at r2
  rw [← hP2]
  have hl2 : P2.length ≤ 30000 := by rw [hP2]; simp only [List.length_append, List.length_cons, List.length_nil]; omega
  clear hP2 r1 hlg hll
  have hst := setTx_len p.set
  refine AOps.nil ?_
  refine ARun.join (S := List Nat) (fun P3 : List Nat => [(5, .str (bytesOf P3)), (6, .any), (7, .any), (45, .any), (46, .any), (47, .any), (48, .any), (49, .any), (50, .any), (51, .any), (52, .any), (53, .any), (54, .any)]) (fun P3 : List Nat => R = P3) (fun run => ?_) ?_
  · skip
    unfold pSet at r2
    refine ARun.ite rfl (fun e => ?_) (fun e => ?_)
    · skip
      rw [if_pos (show p.conv = 91 by omega)] at r2
      refine ARun.seq (ARun.region ?_); refine zzf ?_; refine zzL ?_
      refine zzc rfl rfl (PC.g (Zd2 p.set)) ?_
      refine zzm ?_; refine zze ?_; refine zze ?_; refine zza ?_; refine zza ?_; refine AOps.nil (ARun.region ?_); refine zzm ?_; refine zzm ?_
      refine y_op rfl (OpQ.cast (d' := .str (bytesOf ((setTx p.set).1 ++ [93]))) (ZaW (s := bytesOf ((setTx p.set).1)) (t := bytesOf [93]) rfl rfl (by rw [bytesOf_size, bytesOf_size]; (try simp only [List.length_append, List.length_cons, List.length_nil]); omega)) (congrArg D.str (bytesOf_append ((setTx p.set).1) [93]).symm)) ?_
      refine y_op rfl (OpQ.cast (d' := .str (bytesOf (P2 ++ ((setTx p.set).1 ++ [93])))) (ZaW (s := bytesOf P2) (t := bytesOf ((setTx p.set).1 ++ [93])) rfl rfl (by rw [bytesOf_size, bytesOf_size]; (try simp only [List.length_append, List.length_cons, List.length_nil]); omega)) (congrArg D.str (bytesOf_append P2 ((setTx p.set).1 ++ [93])).symm)) ?_
      refine zza ?_; refine AOps.nil ?_
      exact ARun.ag (run (P2 ++ ((setTx p.set).1 ++ [93])) (r2))
    rw [if_neg (show ¬ p.conv = 91 by omega), List.append_nil] at r2
    refine ARun.skip ?_
    exact ARun.ag (run (P2) (r2))
  rintro P3 hj
  try dsimp only at hj ⊢
  subst hj
  refine ARun.seq (ARun.region ?_); refine zzm ?_; refine zza ?_; refine AOps.nil ?_
  refine ARun.ret ?_
  refine ⟨_, _, _, .tmp rfl .nil, .cons (.same _) .nil, rfl, ?_⟩
  rfl
end Go.V
set_option maxHeartbeats 8000000
set_option maxRecDepth 100000
set_option synthInstance.maxSize 100000
set_option synthInstance.maxHeartbeats 2000000
namespace Go.V
open Go.RowKit Go.Proofs
theorem sby_append (a b : ByteArray) : sby (a ++ b) = sby a ++ sby b := by
  unfold sby
  rw [ByteArray.data_append, Array.toList_append, List.map_append]
theorem sby_mem {s : ByteArray} {x : Nat} (h : x ∈ sby s) : x < 256 := by
  obtain ⟨i, hi, e⟩ := List.getElem_of_mem h
  have := sby_lt (s := s) i
  rw [List.getD_eq_getElem?_getD, List.getElem?_eq_getElem hi] at this
  rw [← e]; exact this
theorem bytesOf_sby (s : ByteArray) : bytesOf (sby s) = s := by
  apply ByteArray.ext
  apply Array.ext'
  exact sby_inj (sby_bytesOf (fun c hc => sby_mem hc))
theorem sconv_pos (p : Pc) (pos : Bool) : 0 < (sconv p pos).length := by
  unfold sconv pHead
  rw [List.length_append]
  split
  · simp only [List.length_cons]; omega
  cases pos
  · show 0 < 1 + _; omega
  show 0 < ((37 :: dnum p.arg.toNat) ++ [36]).length + _
  rw [List.length_append, List.length_cons]; omega
theorem sconv_len {p : Pc} {pos : Bool} (h : svalid p = true) (hs : spl p = false) : (sconv p pos).length ≤ 40000 := by
  obtain ⟨ha, hw, hn⟩ := svalid_rng h
  have h1 := dnum_len p.arg.toNat
  have h2 := dnum_len p.wid.toNat
  have h3 := lensN_len p.len.toNat
  have h4 := setTx_len p.set
  have a1 : (pHead p pos).length ≤ 100 := by
    unfold pHead
    split
    · exact by decide
    cases pos
    · show (1 : Nat) ≤ 100; decide
    show ((37 :: dnum p.arg.toNat) ++ [36]).length ≤ 100
    rw [List.length_append, List.length_cons]; simp only [List.length_cons, List.length_nil]; omega
  have a2 : (pWid p).length ≤ 20000 := by
    unfold pWid; split
    · omega
    exact Nat.zero_le _
  have a3 : (pSet p).length ≤ 400 := by
    unfold pSet; split
    · rw [List.length_append]; simp only [List.length_cons, List.length_nil]; omega
    exact Nat.zero_le _
  unfold sconv
  simp only [List.length_append, List.length_cons, List.length_nil]
  omega
theorem slit_pos {s : ByteArray} (h : slit s = true) : 0 < s.size := by
  unfold slit at h
  rw [Bool.and_eq_true, decide_eq_true_eq] at h; exact h.1
theorem svalid_slit {p : Pc} (h : svalid p = true) (hc : p.conv = 0) : slit p.lit = true := by
  rw [svalid_lit hc, Bool.and_eq_true] at h; exact h.1
theorem ZfT (l : List Pc) (hw : ∀ p ∈ l, PcF p) (hs : ∀ p ∈ l, p.lit.size ≤ 1048576) (hl : l.length ≤ 1099511627776) : PC Cg Zcv [slP l] (fun o => o = .ret (.tup [.str (sPrint l).1, .int .i64 (sPrint l).2])) := by
  obtain ⟨R, hR⟩ : ∃ R, R = sPrint l := ⟨_, rfl⟩
  rw [← hR]
  unfold sPrint at hR
  have hC := ZdZ l hw hl
  have hO := PC.g (Zd1 l hl)
  have hall := fun h => scheck_all (l := l) h
  generalize scheck l = c at *
  generalize sord l 0 = y at *
  refine PC.rn Zb3 ZdJ ZdK (rs := [.tmp 2, .tmp 3]) (by rw [ZdL]) ?_
  refine ARun.seq (ARun.region ?_); refine zza ?_; refine zza ?_; refine AOps.nil (ARun.seq (ARun.seq (ARun.region ?_))); refine zzm ?_
  refine zzc rfl rfl (hC) ?_
  refine zzm ?_; refine zze ?_; refine zze ?_; refine zza ?_; refine zza ?_; refine AOps.nil (ARun.seq (ARun.region ?_)); refine zzm ?_
  refine y_op rfl (OpQ.cast (d' := .bool (!decide (c.1 = 0))) (q_int rfl rfl rfl) (congrArg D.bool (by rw [Bool.eq_iff_iff]; simp))) ?_
  refine AOps.nil ?_
  refine ARun.cond rfl (fun u => ?_) (fun u => ?_)
  · skip
    have u : ¬ c.1 = 0 := by simpa using u
    rw [if_neg u] at hR
    subst hR
    refine ARun.seq (ARun.region ?_); refine zzm ?_; refine zza ?_; refine zza ?_; refine AOps.nil ?_
    refine ARun.ret ?_
    refine ⟨_, _, _, .tmp rfl (.tmp rfl .nil), .cons (.same _) (.cons (.same _) .nil), rfl, ?_⟩
    rfl
  have u : c.1 = 0 := by simpa using u
  rw [if_pos u] at hR
  obtain ⟨h5, hv⟩ := hall u
  clear hall hC u
  refine ARun.skip (ARun.seq (ARun.region ?_))
  refine y_new rfl (Zbk rfl rfl rfl rfl) ?_
  refine AOps.nil (ARun.seq (ARun.region ?_)); refine zzm ?_
  refine zzc rfl rfl (hO) ?_
  refine zza ?_; refine AOps.nil (ARun.seq (ARun.seq (ARun.region ?_))); refine zzm ?_; refine zzN ?_; refine zzm ?_; refine AOps.nil (ARun.block ?_)
  refine ARun.loopI (S := Nat × Heap) (fun σ : Nat × Heap => [(9, .any), (22, .int .i64 (σ.1 : Int)), (23, .any), (24, .any), (25, .any), (26, .any), (27, .any), (28, .any), (29, .any), (30, .any), (31, .any), (32, .any), (33, .any), (34, .any), (35, .any), (36, .any), (37, .any), (38, .any), (39, .any), (40, .any), (41, .any), (42, .any), (43, .any)]) (fun σ : Nat × Heap => σ.2) (fun σ : Nat × Heap => σ.1 ≤ l.length ∧ BldS σ.2 0 (sby (sprs (l.take σ.1) (!y))) ∧ (sprs (l.take σ.1) (!y)).size ≤ σ.1 * 1100000) (fun σ : Nat × Heap => l.length - σ.1) ((0, [bldO .nilptr .nilsl])) ?_ ?_ ?_ ?_
  · exact ⟨Nat.zero_le _, .new rfl, Nat.zero_le _⟩
  · (repeat' first | exact envLe_nil | apply envLe_any | apply envLe_same)
  · rfl
  rintro ⟨i, H⟩ hinv ih
  dsimp only at hinv ih ⊢
  obtain ⟨i1, i2, i3⟩ := hinv
  refine ARun.seq (ARun.region ?_); refine zzi ?_; refine AOps.nil (ARun.seq ?_)
  refine ARun.ite rfl (fun g => ?_) (fun g => ?_)
  · skip
    have g : i < l.length := by omega
    have hd := pcs_drop l i g
    have hne := pcs_ne g
    have hpm : l.getD i pcZ ∈ l := by rw [List.getD_eq_getElem?_getD, List.getElem?_eq_getElem g]; exact List.getElem_mem g
    have hpw := (hw _ hpm).1.2
    have hps := hs _ hpm
    have hpv := hv i g
    have hsu := sprs_succ (l := l) (!y) g
    generalize l.getD i pcZ = p at *
    obtain ⟨r1, r2, r3⟩ := svalid_rng hpv
    have hstep : ∀ (H' : Heap) (M : List Nat), BldS H' 0 (sby (sprs (l.take i) (!y)) ++ M) → M = sby (sprn p (!y)) → M.length ≤ 1100000 → BldS H' 0 (sby (sprs (l.take (i + 1)) (!y))) ∧ (sprs (l.take (i + 1)) (!y)).size ≤ (i + 1) * 1100000 := fun H' M hb hM hml => by
      subst hM
      rw [hsu, sby_append, ByteArray.size_append]
      rw [sby_len] at hml
      exact ⟨hb, by omega⟩
    have hlb := sby_len (sprs (l.take i) (!y))
    generalize sby (sprs (l.take i) (!y)) = L at *
    refine ARun.skip (ARun.seq (ARun.block (ARun.seq (ARun.region ?_))))
    refine y_op rfl (Zav rfl rfl rfl rfl (by omega) (by omega) hne hd) ?_
    refine zzL ?_
    refine ZbI rfl rfl rfl rfl rfl rfl rfl rfl rfl rfl rfl ?_
    refine AOps.nil (ARun.seq (ARun.region ?_)); refine zzf ?_; refine zzl ?_; refine AOps.nil (ARun.block (ARun.seq (ARun.region ?_)))
    refine y_op rfl (OpQ.cast (q_int rfl rfl rfl) (congrArg D.bool (int_dec (m := 0) rfl))) ?_
    refine zza ?_; refine AOps.nil ?_
    refine ARun.ite rfl (fun a => ?_) (fun a => ?_)
    · skip
      have a : p.conv = 0 := by omega
      have hsl := slit_pos (svalid_slit hpv a)
      refine ARun.region ?_; refine zzf ?_; refine zzl ?_
      refine Zad rfl rfl rfl rfl (HC.g (ZbZ H 0 L i2 p.lit hsl (by omega))) ?_ (by rintro _ _ ⟨h, _⟩; cases h)
      rintro q1 H1 ⟨e1, b1, k1⟩
      injection e1 with e1
      subst e1
      refine AOps.nil (ARun.inBlock (ARun.inBlock (ARun.region ?_)))
      refine y_op rfl (q_add rfl rfl (nadd1_i64 (by omega))) ?_
      refine zzm ?_; refine AOps.nil ?_
      refine ARun.again (ih ((i + 1, H1)) ?_ ?_) ?_ ?_
      · (obtain ⟨z1, z2⟩ := hstep H1 _ b1 (by unfold sprn; rw [if_neg (by omega), if_pos a]) (by rw [sby_len]; omega); exact ⟨g, z1, z2⟩)
      · (dsimp only; omega)
      · (repeat' first | exact envLe_nil | apply envLe_any | apply envLe_same)
      rfl
    have a : ¬ p.conv = 0 := by omega
    refine ARun.seq (ARun.region ?_)
    refine y_op rfl (OpQ.cast (q_int rfl rfl rfl) (congrArg D.bool (int_dec (m := 32) rfl))) ?_
    refine zza ?_; refine AOps.nil ?_
    refine ARun.ite rfl (fun b => ?_) (fun b => ?_)
    · skip
      have b : p.conv = 32 := by omega
      refine ARun.region ?_
      refine Zad rfl rfl rfl rfl (HC.g (Za7 H 0 L i2 32 (by omega))) ?_ (by rintro _ _ ⟨h, _⟩; cases h)
      rintro q1 H1 ⟨e1, b1, k1⟩
      injection e1 with e1
      subst e1
      refine AOps.nil (ARun.inBlock (ARun.inBlock (ARun.region ?_)))
      refine y_op rfl (q_add rfl rfl (nadd1_i64 (by omega))) ?_
      refine zzm ?_; refine AOps.nil ?_
      refine ARun.again (ih ((i + 1, H1)) ?_ ?_) ?_ ?_
      · (obtain ⟨z1, z2⟩ := hstep H1 _ b1 (by unfold sprn; rw [if_pos b]; rfl) (by decide); exact ⟨g, z1, z2⟩)
      · (dsimp only; omega)
      · (repeat' first | exact envLe_nil | apply envLe_any | apply envLe_same)
      rfl
    have b : ¬ p.conv = 32 := by omega
    refine ARun.seq (ARun.region ?_)
    refine y_op rfl (OpQ.cast (q_int rfl rfl rfl) (congrArg D.bool (int_dec (m := 37) rfl))) ?_
    refine zza ?_; refine AOps.nil ?_
    refine ARun.ite rfl (fun d => ?_) (fun d => ?_)
    · skip
      have d : p.conv = 37 := by omega
      refine ARun.region ?_
      refine Zad rfl rfl rfl rfl (HC.g (ZbZ H 0 L i2 (bytesOf [37, 37]) (by decide) (by rw [bytesOf_size]; simp only [List.length_cons, List.length_nil]; omega))) ?_ (by rintro _ _ ⟨h, _⟩; cases h)
      rintro q1 H1 ⟨e1, b1, k1⟩
      injection e1 with e1
      subst e1
      refine AOps.nil (ARun.inBlock (ARun.inBlock (ARun.region ?_)))
      refine y_op rfl (q_add rfl rfl (nadd1_i64 (by omega))) ?_
      refine zzm ?_; refine AOps.nil ?_
      refine ARun.again (ih ((i + 1, H1)) ?_ ?_) ?_ ?_
      · (obtain ⟨z1, z2⟩ := hstep H1 _ b1 (by unfold sprn; rw [if_neg b, if_neg a, if_pos d]) (by decide); exact ⟨g, z1, z2⟩)
      · (dsimp only; omega)
      · (repeat' first | exact envLe_nil | apply envLe_any | apply envLe_same)
      rfl
    have d : ¬ p.conv = 37 := by omega
    have hspl : spl p = false := by unfold spl; rw [decide_eq_false a, decide_eq_false b, decide_eq_false d]; rfl
    have hca := sclass_ascii hpw (svalid_conv hpv hspl)
    have hsz := sconv_len (pos := !y) hpv hspl
    have hsp := sconv_pos p (!y)
    refine ARun.region ?_; refine zzL ?_; refine zzm ?_
    refine zzc rfl rfl (ZeK p y r1 r2 r3 hca) ?_
    refine Zad rfl rfl rfl rfl (HC.g (ZbZ H 0 L i2 (bytesOf (sconv p (!y))) (by rw [bytesOf_size]; exact hsp) (by rw [bytesOf_size]; omega))) ?_ (by rintro _ _ ⟨h, _⟩; cases h)
    rintro q1 H1 ⟨e1, b1, k1⟩
    injection e1 with e1
    subst e1
    refine AOps.nil (ARun.inBlock (ARun.inBlock (ARun.region ?_)))
    refine y_op rfl (q_add rfl rfl (nadd1_i64 (by omega))) ?_
    refine zzm ?_; refine AOps.nil ?_
    refine ARun.again (ih ((i + 1, H1)) ?_ ?_) ?_ ?_
    · (obtain ⟨z1, z2⟩ := hstep H1 _ b1 (by unfold sprn; rw [if_neg b, if_neg a, if_neg d]) (by rw [sby_len, bytesOf_size]; omega); exact ⟨g, z1, z2⟩)
    · (dsimp only; omega)
    · (repeat' first | exact envLe_nil | apply envLe_any | apply envLe_same)
    rfl
  obtain rfl : i = l.length := by omega
  rw [List.take_length] at i2 i3
  have hlb := sby_len (sprs l (!y))
  refine ARun.exit rfl ?_
  refine ARun.seq (ARun.seq (ARun.region ?_))
  refine Zad rfl rfl rfl rfl (HC.g (hc_Len H 0 _ i2)) ?_ (by rintro _ _ ⟨h, _⟩; cases h)
  rintro q1 H1 ⟨e1, rfl⟩
  injection e1 with e1
  subst e1
  refine y_op rfl (OpQ.cast (d' := .bool (decide (2000 < (sprs l (!y)).size))) (q_int rfl rfl rfl) (congrArg D.bool (decide_eq_decide.2 (by omega)))) ?_
  refine AOps.nil ?_
  refine ARun.ite rfl (fun k => ?_) (fun k => ?_)
  · skip
    rw [if_pos k] at hR
    subst hR
    refine ARun.seq (ARun.region ?_); refine zza ?_; refine zza ?_; refine AOps.nil ?_
    refine ARun.ret ?_
    refine ⟨_, _, _, .tmp rfl (.tmp rfl .nil), .cons (.same _) (.cons (.same _) .nil), rfl, ?_⟩
    rfl
  rw [if_neg k] at hR
  subst hR
  refine ARun.skip (ARun.seq (ARun.region ?_))
  refine Zad rfl rfl rfl rfl (HC.g (Zfi _ 0 _ i2 (fun x hx => sby_mem hx) (by omega))) ?_ (by rintro _ _ ⟨h, _⟩; cases h)
  rintro q1 H2 ⟨e1, k2⟩
  injection e1 with e1
  subst e1
  rw [bytesOf_sby]
  refine zza ?_; refine zza ?_; refine AOps.nil ?_
  refine ARun.ret ?_
  refine ⟨_, _, _, .tmp rfl (.tmp rfl .nil), .cons (.same _) (.cons (.same _) .nil), rfl, ?_⟩
  rfl
end Go.V
set_option maxHeartbeats 4000000
set_option maxRecDepth 100000
namespace Go.V
open Go.RowKit Go.Proofs
/-! READING A FORMAT, over what is left of it. -/
def hdIs : List Nat → Nat → Bool
  | [], _ => false
  | a :: _, c => decide (a = c)
theorem hdIs_drop (l : List Nat) (i c : Nat) : hdIs (l.drop i) c = (decide (i < l.length) && decide (l.getD i 0 = c)) := by
  rcases Nat.lt_or_ge i l.length with h | h
  · rw [drop_getD l i 0 h, decide_eq_true h, Bool.true_and]; rfl
  rw [List.drop_eq_nil_of_le h, decide_eq_false (by omega)]; rfl
def dgL : Nat → List Nat → Nat × List Nat
  | n, [] => (n, [])
  | n, c :: r => if sdp n c = true then dgL (min 100000 (10 * n + (c - 48))) r else (n, c :: r)
theorem dgL_le : ∀ (n : Nat) (r : List Nat), n ≤ 100000 → (dgL n r).1 ≤ 100000 ∧ (dgL n r).2.length ≤ r.length
  | n, [], h => ⟨h, Nat.le_refl _⟩
  | n, c :: r, h => by
    rw [dgL]
    split
    · have := dgL_le (min 100000 (10 * n + (c - 48))) r (Nat.min_le_left _ _)
      exact ⟨this.1, Nat.le_succ_of_le this.2⟩
    exact ⟨h, Nat.le_refl _⟩
theorem dgL_suf : ∀ (n : Nat) (r : List Nat), ∃ u, r = u ++ (dgL n r).2
  | n, [] => ⟨[], rfl⟩
  | n, c :: r => by
    rw [dgL]
    split
    · obtain ⟨u, hu⟩ := dgL_suf (min 100000 (10 * n + (c - 48))) r
      exact ⟨c :: u, by rw [List.cons_append, ← hu]⟩
    exact ⟨[], rfl⟩
theorem suf_drop {l u r : List Nat} {i : Nat} (hi : i ≤ l.length) (h : l.drop i = u ++ r) : l.drop (l.length - r.length) = r ∧ i ≤ l.length - r.length := by
  have hl := congrArg List.length h
  rw [List.length_drop, List.length_append] at hl
  have e : l.length - r.length = i + u.length := by omega
  rw [e, ← List.drop_drop, h, List.drop_left]
  exact ⟨rfl, by omega⟩
def argL (r : List Nat) : Nat × Bool × Bool × List Nat :=
  bif hdIs r 42 then (0, true, false, r.drop 1) else
  bif decide (0 < (dgL 0 r).1) && hdIs (dgL 0 r).2 36 then ((dgL 0 r).1, false, true, (dgL 0 r).2.drop 1) else (0, false, false, r)
def mF (r : List Nat) : Nat → Nat → Nat → Nat
  | 0, _, b => b
  | f + 1, k, b => mF r f (k + 1) (if (lenAt b).length < (lenAt k).length ∧ r.take (lenAt k).length = lenAt k then k else b)
def modL (r : List Nat) : Nat := mF r 12 0 0
theorem mF_inv (r : List Nat) : ∀ f k b, k + f ≤ 12 → (b < 12 ∧ r.take (lenAt b).length = lenAt b) → (mF r f k b < 12 ∧ r.take (lenAt (mF r f k b)).length = lenAt (mF r f k b))
  | 0, _, b, _, h => h
  | f + 1, k, b, hk, h => by
    rw [mF]
    apply mF_inv r f (k + 1) _ (by omega)
    split
    · rename_i g; exact ⟨by omega, g.2⟩
    exact h
theorem modL_ok (r : List Nat) : modL r < 12 ∧ r.take (lenAt (modL r)).length = lenAt (modL r) := mF_inv r 12 0 0 (by decide) ⟨by decide, rfl⟩
theorem modL_len (r : List Nat) : (lenAt (modL r)).length ≤ r.length := by
  have := congrArg List.length (modL_ok r).2
  rw [List.length_take] at this; omega
def dropIf (c : Nat) (r : List Nat) : List Nat := bif hdIs r c then r.drop 1 else r
def fx : List Nat → Option Nat
  | [] => none
  | c :: r => if c = 93 then some 0 else (fx r).map (· + 1)
theorem fx_lt : ∀ {r : List Nat} {n : Nat}, fx r = some n → n < r.length
  | [], _, h => by cases h
  | c :: r, n, h => by
    rw [fx] at h
    split at h
    · injection h with h; subst h; exact Nat.succ_pos _
    cases e : fx r with
    | none => rw [e] at h; cases h
    | some m => rw [e] at h; injection h with h; subst h; exact Nat.succ_lt_succ (fx_lt e)
theorem dropIf_suf (c : Nat) (r : List Nat) : ∃ u, r = u ++ dropIf c r := by
  unfold dropIf
  cases hdIs r c
  · exact ⟨[], rfl⟩
  exact ⟨r.take 1, (List.take_append_drop 1 r).symm⟩
noncomputable def stL (r : List Nat) : Option ((Nat → Bool) × List Nat) :=
  match fx (dropIf 93 (dropIf 94 r)) with
  | none => none
  | some n => if (readS (bytesOf (r.take (r.length - ((dropIf 93 (dropIf 94 r)).drop (n + 1)).length - 1)))).2 = 0 then
      some ((readS (bytesOf (r.take (r.length - ((dropIf 93 (dropIf 94 r)).drop (n + 1)).length - 1)))).1, (dropIf 93 (dropIf 94 r)).drop (n + 1)) else none
inductive CR where
  | bad
  | lim
  | ok (p : Pc) (r : List Nat) (cnt : Nat) (w pl : Bool)
def convE (cnt : Nat) (w pl : Bool) (n : Nat) (mute pos : Bool) (wid len c : Nat) (S : Nat → Bool) (r : List Nat) : CR :=
  bif (w || pos) && (pl || (!mute && decide (n = 0))) then .bad else
  bif decide (10000 < wid) || decide (64 < (if (!mute && decide (n = 0)) = true then cnt + 1 else n)) then .lim else
  .ok ⟨ByteArray.empty, (((if (!mute && decide (n = 0)) = true then cnt + 1 else n) : Nat) : Int), (wid : Int), (len : Int), c, S⟩ r (if (!mute && decide (n = 0)) = true then cnt + 1 else cnt) (w || pos) (pl || (!mute && decide (n = 0)))
noncomputable def convC (cnt : Nat) (w pl : Bool) (n : Nat) (mute pos : Bool) (wid len : Nat) : List Nat → CR
  | [] => .bad
  | c :: r =>
    bif (decide (sclass c = 0) || !slong ((sclass c : Nat) : Int) (len : Int)) || (decide (sclass c = 5) && (mute || decide (0 < wid))) then .bad else
    if c = 91 then (match stL r with
      | none => .bad
      | some (S, q) => convE cnt w pl n mute pos wid len c S q)
    else convE cnt w pl n mute pos wid len c sempty r
noncomputable def convL (cnt : Nat) (w pl : Bool) (r : List Nat) : CR :=
  convC cnt w pl (argL r).1 (argL r).2.1 (argL r).2.2.1 (dgL 0 (argL r).2.2.2).1 (modL (dgL 0 (argL r).2.2.2).2) ((dgL 0 (argL r).2.2.2).2.drop (lenAt (modL (dgL 0 (argL r).2.2.2).2)).length)
def runL (f : Nat → Bool) : List Nat → List Nat × List Nat
  | [] => ([], [])
  | c :: r => bif f c then (c :: (runL f r).1, (runL f r).2) else ([], c :: r)
theorem runL_app (f : Nat → Bool) : ∀ r, (runL f r).1 ++ (runL f r).2 = r
  | [] => rfl
  | c :: r => by
    rw [runL]
    cases f c
    · rfl
    show c :: ((runL f r).1 ++ (runL f r).2) = _
    rw [runL_app f r]
inductive PR where
  | err (e : Int) (r : List Nat)
  | ok (p : Pc) (r : List Nat) (cnt : Nat) (w pl : Bool)
noncomputable def pieceL (cnt : Nat) (w pl : Bool) : List Nat → PR
  | [] => .err 6 []
  | c :: r =>
    bif swhite c then .ok (bareP ByteArray.empty 0 0 0 32) (runL swhite (c :: r)).2 cnt w pl else
    if c = 37 then (bif hdIs r 37 then .ok (bareP ByteArray.empty 0 0 0 37) (r.drop 1) cnt w pl else
      match convL cnt w pl r with
      | .bad => .err 6 (c :: r)
      | .lim => .err 2 (c :: r)
      | .ok p q cnt' w' pl' => .ok p q cnt' w' pl')
    else bif hdIs (runL splain (c :: r)).2 0 then .err 6 (runL splain (c :: r)).2 else .ok (bareP (bytesOf (runL splain (c :: r)).1) 0 0 0 0) (runL splain (c :: r)).2 cnt w pl
noncomputable def prsF : Nat → List Pc → Nat → Bool → Bool → List Nat → List Pc × Int × List Nat
  | 0, _, _, _, _, r => ([], 6, r)
  | f + 1, out, cnt, w, pl, r =>
    if r = [] then (bif (sgr out).2 then (out, 0, []) else ([], 6, [])) else
    if out.length = 500 then ([], 2, r) else
    match pieceL cnt w pl r with
    | .err e q => ([], e, q)
    | .ok p q cnt' w' pl' => prsF f (out ++ [p]) cnt' w' pl' q
noncomputable def parseF (s : ByteArray) : List Pc × Int × Int :=
  if 2000 < s.size then ([], 2, 0) else
  ((prsF (s.size + 1) [] 0 false false (sby s)).1, (prsF (s.size + 1) [] 0 false false (sby s)).2.1, if (prsF (s.size + 1) [] 0 false false (sby s)).2.1 = 0 then 0 else ((s.size - (prsF (s.size + 1) [] 0 false false (sby s)).2.2.length : Nat) : Int))
end Go.V
