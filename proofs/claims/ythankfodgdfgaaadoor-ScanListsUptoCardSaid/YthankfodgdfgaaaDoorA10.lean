/- A part of the proof: abstract values, rules for the steps of the program's form, and contracts of its functions, each proved; no condition. -/
import Derived.Test.YthankfodgdfgaaaDoorA09
import Derived.Shelf.Strconv.Itoa3
set_option linter.unusedVariables false
set_option linter.unusedSimpArgs false
set_option linter.unnecessarySimpa false
set_option maxHeartbeats 8000000
set_option maxRecDepth 100000
set_option synthInstance.maxSize 100000
set_option synthInstance.maxHeartbeats 2000000
namespace Go.V
open Go.RowKit Go.Proofs
theorem slong_rng {row len : Int} (h : slong row len = true) : 0 ≤ len ∧ len ≤ 11 := by
  unfold slong at h
  split at h
  · omega
  split at h
  · simp only [Bool.and_eq_true, decide_eq_true_eq] at h; omega
  split at h
  · simp only [Bool.or_eq_true, Bool.and_eq_true, decide_eq_true_eq] at h; omega
  split at h
  · simp only [decide_eq_true_eq] at h; omega
  cases h
theorem svalid_rng {p : Pc} (h : svalid p = true) : (0 ≤ p.arg ∧ p.arg ≤ 64) ∧ (0 ≤ p.wid ∧ p.wid ≤ 10000) ∧ (0 ≤ p.len ∧ p.len ≤ 11) := by
  unfold svalid at h
  cases a : spl p
  · rw [a, cond_false] at h
    cases b : (((((decide (sclass p.conv = 0) || !decide (sby p.lit = [])) || decide (p.arg < 0)) || decide (p.arg > 64)) || decide (p.wid < 0)) || decide (p.wid > 10000)) || !slong ((sclass p.conv : Nat) : Int) p.len
    · simp only [Bool.or_eq_false_iff, decide_eq_false_iff_not, Bool.not_eq_false'] at b
      have := slong_rng b.2
      omega
    rw [b] at h; cases h
  rw [a, cond_true] at h
  simp only [Bool.and_eq_true, decide_eq_true_eq] at h
  omega
theorem sprn_size {p : Pc} {pos : Bool} (hl : p.lit.size ≤ 1099511627776) (h : svalid p = true) : (sprn p pos).size ≤ 1099511627776 := by
  obtain ⟨ha, hw, hn⟩ := svalid_rng h
  unfold sprn
  split
  · rw [bytesOf_size]; decide
  split
  · exact hl
  split
  · rw [bytesOf_size]; decide
  rw [bytesOf_size]
  have h1 := dnum_len p.arg.toNat
  have h2 := dnum_len p.wid.toNat
  have h3 := lensN_len p.len.toNat
  have h4 := setTx_len p.set
  have a1 : (pHead p pos).length ≤ 100 := by
    unfold pHead
    split
    · exact by decide
    cases pos
    · show (1 : Nat) ≤ 100; decide
    show ((37 :: dnum p.arg.toNat) ++ [36]).length ≤ 100
    rw [List.length_append, List.length_cons]; simp only [List.length_cons, List.length_nil]; omega
  have a2 : (pWid p).length ≤ 20000 := by
    unfold pWid; split
    · omega
    exact Nat.zero_le _
  have a3 : (pSet p).length ≤ 400 := by
    unfold pSet; split
    · rw [List.length_append]; simp only [List.length_cons, List.length_nil]; omega
    exact Nat.zero_le _
  unfold sconv
  simp only [List.length_append, List.length_cons, List.length_nil]
  omega
def sprs (l : List Pc) (pos : Bool) : ByteArray := l.foldl (fun a p => a ++ sprn p pos) ByteArray.empty
theorem sprs_succ {l : List Pc} {i : Nat} (pos : Bool) (h : i < l.length) : sprs (l.take (i + 1)) pos = sprs (l.take i) pos ++ sprn (l.getD i pcZ) pos := by
  unfold sprs
  rw [List.take_add_one, List.getElem?_eq_getElem h, List.foldl_append, List.getD_eq_getElem?_getD, List.getElem?_eq_getElem h]; rfl
def sPrint (l : List Pc) : ByteArray × Int := if (scheck l).1 = 0 then (if 2000 < (sprs l (!sord l 0)).size then (ByteArray.empty, 2) else (sprs l (!sord l 0), 0)) else (ByteArray.empty, (scheck l).1)
theorem scheck_all {l : List Pc} (h : (scheck l).1 = 0) : l.length ≤ 500 ∧ ∀ j, j < l.length → svalid (l.getD j pcZ) = true := by
  unfold scheck at h
  split at h
  · cases h
  exact ⟨by omega, fun j hj => schk_all h j (Nat.zero_le _) hj⟩
theorem ZhL (l : List Pc) (hw : ∀ p ∈ l, PcW p) (hl : l.length ≤ 1099511627776) : PC C ZgY [slP l] (fun o => o = .ret (.tup [.str (sPrint l).1, .int .i64 (sPrint l).2])) := by
  obtain ⟨R, hR⟩ : ∃ R, R = sPrint l := ⟨_, rfl⟩
  rw [← hR]
  unfold sPrint at hR
  have hC := ZcV l hw hl
  have hO := Zen l hl
  have hall := fun h => scheck_all (l := l) h
  generalize scheck l = c at *
  generalize sord l 0 = y at *
  refine PC.rn Zeg Zgo Zgp (rs := [.tmp 2, .tmp 3]) (by rw [Zgq]) ?_
  refine ARun.seq (ARun.region ?_); refine zza ?_; refine zza ?_; refine AOps.nil (ARun.seq (ARun.region ?_)); refine zzm ?_
  refine zzc rfl rfl (hC) ?_
  refine zzm ?_; refine zze ?_; refine zze ?_; refine zza ?_; refine zza ?_; refine AOps.nil (ARun.seq (ARun.seq (ARun.region ?_))); refine zzm ?_
  refine y_op rfl (OpQ.cast (d' := .bool (!decide (c.1 = 0))) (q_int rfl rfl rfl) (congrArg D.bool (by rw [Bool.eq_iff_iff]; simp))) ?_
  refine AOps.nil ?_
  refine ARun.cond rfl (fun u => ?_) (fun u => ?_)
  · skip
    have u : ¬ c.1 = 0 := by simpa using u
    rw [if_neg u] at hR
    subst hR
    refine ARun.seq (ARun.region ?_); refine zzm ?_; refine zza ?_; refine zza ?_; refine AOps.nil ?_
    refine ARun.ret ?_
    refine ⟨_, _, _, .tmp rfl (.tmp rfl .nil), .cons (.same _) (.cons (.same _) .nil), rfl, ?_⟩
    rfl
  have u : c.1 = 0 := by simpa using u
  rw [if_pos u] at hR
  obtain ⟨h5, hv⟩ := hall u
  clear hall hC u
  refine ARun.skip (ARun.seq (ARun.region ?_)); refine zza ?_; refine AOps.nil (ARun.seq (ARun.seq (ARun.region ?_))); refine zza ?_; refine AOps.nil (ARun.block ?_)
  refine ARun.loopI (S := Nat) (fun i : Nat => [(6, .str (sprs (l.take i) (!y))), (7, .int .i64 (i : Int)), (16, .any), (17, .any), (18, .any), (19, .any), (20, .any), (21, .any), (22, .any), (23, .any), (24, .any), (25, .any), (26, .any), (27, .any), (28, .any), (29, .any), (30, .any), (31, .any)]) (fun i : Nat => []) (fun i : Nat => i ≤ l.length ∧ (sprs (l.take i) (!y)).size ≤ i * 1099511627776) (fun i : Nat => l.length - i) (0) ?_ ?_ ?_ ?_
  · exact ⟨Nat.zero_le _, Nat.zero_le _⟩
  · (repeat' first | exact envLe_nil | apply envLe_any | apply envLe_same)
  · rfl
  rintro i hinv ih
  obtain ⟨i1, i2⟩ := hinv
  refine ARun.seq (ARun.seq (ARun.region ?_)); refine zzm ?_; refine zzm ?_; refine zzN ?_; refine zzi ?_; refine AOps.nil ?_
  refine ARun.ite rfl (fun g => ?_) (fun g => ?_)
  · skip
    have g : i < l.length := by omega
    have hd := pcs_drop l i g
    have hne := pcs_ne g
    have hpw : PcW (l.getD i pcZ) := by rw [List.getD_eq_getElem?_getD, List.getElem?_eq_getElem g]; exact hw _ (List.getElem_mem g)
    have hpv := hv i g
    have hs := sprs_succ (l := l) (!y) g
    generalize l.getD i pcZ = p at *
    obtain ⟨r1, r2, r3⟩ := svalid_rng hpv
    have hsz := sprn_size (pos := !y) hpw.1 hpv
    refine ARun.skip (ARun.seq (ARun.block ?_))
    refine ARun.drawnP 10 (fun _ => False) mixC rfl rfl (by kernel_rfl) (fun _ _ h => h.elim) ?_
    refine .op rfl (q_move rfl) ?_
    refine .op rfl (q_move rfl) ?_
    refine .op rfl (q_move rfl) ?_
    refine .op rfl (Zaf rfl rfl rfl rfl (by omega) (by omega) hne hd) ?_
    refine .op rfl (Zaj rfl rfl rfl rfl rfl) ?_
    refine .op rfl (q_move rfl) ?_
    refine .op rfl (q_call rfl rfl (hO)) ?_
    refine .op rfl (q_not rfl) ?_
    refine .op rfl (q_call rfl rfl (ZgJ p (!y) r1 r2 r3 hpw.2)) ?_
    refine .op rfl (OpQ.cast (Zal (s := sprs (l.take i) (!y)) (t := sprn p (!y)) rfl rfl (by omega)) (congrArg D.str hs.symm)) ?_
    refine .nil (fun hG => ?_)
    refine zza ?_; refine AOps.nil (ARun.inBlock (ARun.region ?_)); refine zzm ?_
    refine y_op rfl (q_add rfl rfl (nadd1_i64 (by omega))) ?_
    refine zza ?_; refine AOps.nil ?_
    refine ARun.again (ih (i + 1) ?_ ?_) ?_ ?_
    · exact ⟨g, by rw [hs, ByteArray.size_append]; omega⟩
    · omega
    · (repeat' first | exact envLe_nil | apply envLe_any | apply envLe_same)
    rfl
  obtain rfl : i = l.length := by omega
  rw [List.take_length] at i2 ⊢
  generalize sprs l (!y) = T at *
  refine ARun.exit rfl ?_
  refine ARun.seq (ARun.seq (ARun.region ?_)); refine zzm ?_
  refine y_op rfl (Zag rfl rfl) ?_
  refine y_op rfl (OpQ.cast (d' := .bool (decide (2000 < T.size))) (q_int rfl rfl rfl) (congrArg D.bool (decide_eq_decide.2 (by omega)))) ?_
  refine AOps.nil ?_
  refine ARun.ite rfl (fun k => ?_) (fun k => ?_)
  · skip
    rw [if_pos k] at hR
    subst hR
    refine ARun.seq (ARun.region ?_); refine zza ?_; refine zza ?_; refine AOps.nil ?_
    refine ARun.ret ?_
    refine ⟨_, _, _, .tmp rfl (.tmp rfl .nil), .cons (.same _) (.cons (.same _) .nil), rfl, ?_⟩
    rfl
  rw [if_neg k] at hR
  subst hR
  refine ARun.skip (ARun.seq (ARun.region ?_)); refine zzm ?_; refine zza ?_; refine zza ?_; refine AOps.nil ?_
  refine ARun.ret ?_
  refine ⟨_, _, _, .tmp rfl (.tmp rfl .nil), .cons (.same _) (.cons (.same _) .nil), rfl, ?_⟩
  rfl
end Go.V
/- INEQUALITY OF STRUCTS AND ARRAYS. -/
set_option maxHeartbeats 1000000
namespace Go.V
open Go.RowKit Go.Proofs
section
variable {C : Ctx} {env : List D} {H : Heap} {dst : Option Tmp} {ty : TypeId} {pos : String} {aft : Array Edge} {gd : Option (Nat × Bool)} {x y : Operand} {T T' e : TypeId}
theorem Zh5 {ds es : List D} {vs ws : List Value} {m f : Nat} {la lb : List Lit} {r : Bool} (hk : C.P.keyTypeAt m T = true) (hm : m ≤ 10000) (hg : C.P.eqGuardType C.P.depth T = false) (hx : evO C env x = some (.agg ds)) (hy : evO C env y = some (.agg es)) (hvs : valsD ds = some vs) (hws : valsD es = some ws)
    (fx : (Value.agg vs.toArray).formed C.P T = true) (fy : (Value.agg ws.toArray).formed C.P T = true) (lx : C.P.keyLits f T vs = some la) (ly : C.P.keyLits f T ws = some lb) (hr : r = true ↔ la = lb) : OpQ C ⟨dst, .binOp .neq T x y T', ty, pos, aft, gd⟩ env H (.bool (!r)) :=
  OpQ.of_run fun L w μ a he => by
    have ex := he _ _ hx
    have ey := he _ _ hy
    simp only [VR] at ex ey
    obtain ⟨us, ex, hu⟩ := ex
    obtain ⟨us', ey, hu'⟩ := ey
    rw [valsD_ok hvs hu] at ex
    rw [valsD_ok hws hu'] at ey
    obtain ⟨r', hr', hiff⟩ := run_equalIn_deep (P := C.P) (10000 - m) m T hk w f f (.agg vs.toArray) (.agg ws.toArray) la lb fx fy (by simpa [Value.cells] using lx) (by simpa [Value.cells] using ly)
    rw [show 10000 - m + m = 10000 by omega] at hr'
    obtain rfl : r' = r := by rw [Bool.eq_iff_iff, hiff, hr]
    refine ⟨.bool (!r'), ?_, by simp only [VR]⟩
    have hr' : (Op.equal T (.agg vs.toArray) (.agg ws.toArray)).run C.P w = .ok r' w := hr'
    simp only [execOp, ex, ey, Sem.run_bind, run_eqGuard_agg hg, Result.andThen_ok]
    simp only [binOp, Sem.run_bind, hr', Result.andThen_ok, Sem.run_pure]
end
end Go.V
set_option maxHeartbeats 2000000
set_option maxRecDepth 100000
namespace Go.V
open Go.RowKit Go.Proofs
def PcF (p : Pc) : Prop := PcW p ∧ (Lit.int .i64 p.arg).wf = true ∧ (Lit.int .i64 p.wid).wf = true ∧ (Lit.int .i64 p.len).wf = true
def pcV (p : Pc) : List Value := [.string p.lit, .int .i64 p.arg, .int .i64 p.wid, .int .i64 p.len, .int .u8 (p.conv : Int), .int .u64 ((sw p.set 0 : Nat) : Int), .int .u64 ((sw p.set 1 : Nat) : Int), .int .u64 ((sw p.set 2 : Nat) : Int), .int .u64 ((sw p.set 3 : Nat) : Int)]
def pcL (p : Pc) : List Lit := [.string p.lit.data.toList, .int .i64 p.arg, .int .i64 p.wid, .int .i64 p.len, .int .u8 (p.conv : Int), .int .u64 ((sw p.set 0 : Nat) : Int), .int .u64 ((sw p.set 1 : Nat) : Int), .int .u64 ((sw p.set 2 : Nat) : Int), .int .u64 ((sw p.set 3 : Nat) : Int)]
theorem lit_int {T : TypeId} {k : IntKind} {n : Int} {f : Nat} (hu : C.P.underlying T = some (.int k)) (h : (Lit.int k n).wf = true) : C.P.keyLits (f + 1) T [.int k n] = some [.int k n] := by
  unfold Program.keyLits
  simp only [hu, h, and_self, if_true]
theorem lit_str {T : TypeId} {s : ByteArray} {f : Nat} (hu : C.P.underlying T = some .string) (h : s.size ≤ 1099511627776) : C.P.keyLits (f + 1) T [.string s] = some [.string s.data.toList] := by
  unfold Program.keyLits
  have : s.size ≤ maxLen := by rw [maxLen_eq]; omega
  simp only [hu, this, if_true]
theorem wf_u8 {n : Nat} (h : n < 256) : (Lit.int .u8 (n : Int)).wf = true := by
  have h0 : IntKind.u8.min = 0 := by decide
  have h1 : IntKind.u8.max = 255 := by decide
  simp only [Lit.wf, h0, h1]
  simp
  omega
theorem Zh6 {p : Pc} (h : PcF p) : C.P.keyLits 3 Zae (pcV p) = some (pcL p) := by
  obtain ⟨⟨h1, h2⟩, h3, h4, h5⟩ := h
  have hu : C.P.underlying Zae = _ := Tryd.underlying46
  have hc : C.P.cellsOf Zae = 9 := by kernel_rfl
  have c9 : C.P.cellsOf 9 = 1 := by kernel_rfl
  have c3 : C.P.cellsOf 3 = 1 := by kernel_rfl
  have c5 : C.P.cellsOf 5 = 1 := by kernel_rfl
  have c28 : C.P.cellsOf 28 = 4 := by kernel_rfl
  have k9 : C.P.keyLits 2 9 [.string p.lit] = _ := lit_str (by kernel_rfl) h1
  have ka : C.P.keyLits 2 3 [.int .i64 p.arg] = _ := lit_int (by kernel_rfl) h3
  have kw : C.P.keyLits 2 3 [.int .i64 p.wid] = _ := lit_int (by kernel_rfl) h4
  have kn : C.P.keyLits 2 3 [.int .i64 p.len] = _ := lit_int (by kernel_rfl) h5
  have k5 : C.P.keyLits 2 5 [.int .u8 (p.conv : Int)] = _ := lit_int (by kernel_rfl) (wf_u8 h2)
  have ks : C.P.keyLits 2 28 _ = _ := set_lits (sw_lt p.set 0) (sw_lt p.set 1) (sw_lt p.set 2) (sw_lt p.set 3)
  unfold Program.keyLits
  simp only [hu, hc]
  simp [pcV, pcL, c9, c3, c5, c28, k9, ka, kw, kn, k5, ks]
end Go.V
set_option maxHeartbeats 8000000
set_option maxRecDepth 100000
set_option synthInstance.maxSize 100000
set_option synthInstance.maxHeartbeats 2000000
namespace Go.V
open Go.RowKit Go.Proofs
def pEq (p q : Pc) : Bool := decide (p.lit.data.toList = q.lit.data.toList ∧ p.arg = q.arg ∧ p.wid = q.wid ∧ p.len = q.len ∧ p.conv = q.conv ∧ sw p.set 0 = sw q.set 0 ∧ sw p.set 1 = sw q.set 1 ∧ sw p.set 2 = sw q.set 2 ∧ sw p.set 3 = sw q.set 3)
theorem pEq_lits {p q : Pc} : pEq p q = true ↔ pcL p = pcL q := by
  unfold pEq pcL
  rw [decide_eq_true_eq]
  simp only [List.cons.injEq, Lit.int.injEq, Lit.string.injEq, true_and, and_true, Int.ofNat_inj]
end Go.V
set_option maxHeartbeats 8000000
set_option maxRecDepth 100000
set_option synthInstance.maxSize 100000
set_option synthInstance.maxHeartbeats 2000000
namespace Go.V
open Go.RowKit Go.Proofs
def lenAt (k : Nat) : List Nat := lensN.getD k []
theorem sby_lens {k : Nat} (h : k < 12) : sby (bytesOf (lenAt k)) = lenAt k := sby_bytesOf (match k, h with
  | 0, _ | 1, _ | 2, _ | 3, _ | 4, _ | 5, _ | 6, _ | 7, _ | 8, _ | 9, _ | 10, _ | 11, _ => by decide)
theorem sby_ext2 (s : ByteArray) (i n : Nat) : sby (s.extract i (i + n)) = ((sby s).drop i).take n := by
  unfold sby
  simp [ByteArray.data_extract, Array.toList_extract, List.extract, List.map_take, List.map_drop]
end Go.V
set_option maxHeartbeats 8000000
set_option maxRecDepth 100000
set_option synthInstance.maxSize 100000
set_option synthInstance.maxHeartbeats 2000000
namespace Go.V
open Go.RowKit Go.Proofs
theorem sby_nil {s : ByteArray} : decide (sby s = []) = !decide (0 < s.size) := by
  have hl := sby_len s
  rw [← decide_not]
  apply decide_eq_decide.2
  rw [← List.length_eq_zero_iff]; omega
theorem Zhk (s : ByteArray) (hmax : s.size ≤ 1099511627776) : PC C Zec [.str s] (fun o => o = .ret (.bool (slit s))) := by
  obtain ⟨R, hR⟩ : ∃ R, R = slit s := ⟨_, rfl⟩
  rw [← hR]
  refine PC.rn ZbS ZdE ZdF (rs := [.tmp 2]) (by rw [ZdG]) ?_
  refine ARun.seq (ARun.region ?_); refine zza ?_; refine AOps.nil (ARun.seq (ARun.seq (ARun.region ?_))); refine zzm ?_
  refine y_op rfl (Zag rfl rfl) ?_
  refine zzm ?_; refine AOps.nil (ARun.block ?_)
  refine ARun.loopI (S := Nat) (fun i : Nat => [(2, .any), (3, .any), (7, .any), (8, .any), (9, .any), (10, .any), (11, .any), (12, .any), (13, .any), (14, .any), (6, .int .i64 (i : Int))]) (fun i : Nat => []) (fun i : Nat => i ≤ s.size ∧ ∀ j, j < i → splain ((sby s).getD j 0) = true) (fun i : Nat => s.size - i) (0) ?_ ?_ ?_ ?_
  · exact ⟨Nat.zero_le _, fun j h => absurd h (Nat.not_lt_zero j)⟩
  · (repeat' first | exact envLe_nil | apply envLe_any | apply envLe_same)
  · rfl
  rintro i hinv ih
  obtain ⟨i1, i2⟩ := hinv
  refine ARun.seq (ARun.region ?_); refine zzi ?_; refine AOps.nil (ARun.seq ?_)
  refine ARun.ite rfl (fun g => ?_) (fun g => ?_)
  · skip
    have g : i < s.size := by omega
    refine ARun.skip (ARun.seq (ARun.block (ARun.seq (ARun.region ?_)))); refine zzm ?_; refine zza ?_; refine AOps.nil (ARun.seq (ARun.region ?_)); refine zzm ?_; refine zzm ?_
    refine y_op rfl (Zai rfl rfl rfl (by omega) (by omega) (sby_get _)) ?_
    refine zzc rfl rfl (ZfP ((sby s).getD i 0)) ?_
    refine zzn ?_; refine AOps.nil ?_
    refine ARun.cond rfl (fun y => ?_) (fun y => ?_)
    · skip
      have y : splain ((sby s).getD i 0) = false := by simpa using y
      rw [slit_no g y] at hR
      subst hR
      refine ARun.seq (ARun.region ?_); refine zza ?_; refine AOps.nil ?_
      refine ARun.ret ?_
      refine ⟨_, _, _, .tmp rfl .nil, .cons (.same _) .nil, rfl, ?_⟩
      rfl
    have y : splain ((sby s).getD i 0) = true := by simpa using y
    refine ARun.skip (ARun.inBlock (ARun.region ?_))
    refine y_op rfl (q_add rfl rfl (nadd1_i64 (by omega))) ?_
    refine zzm ?_; refine AOps.nil ?_
    refine ARun.again (ih (i + 1) ?_ ?_) ?_ ?_
    · exact ⟨g, fun j hj => (Nat.lt_or_eq_of_le (Nat.le_of_lt_succ hj)).elim (i2 j) (fun e => by rw [e]; exact y)⟩
    · omega
    · (repeat' first | exact envLe_nil | apply envLe_any | apply envLe_same)
    rfl
  obtain rfl : i = s.size := by omega
  rw [slit_yes i2] at hR
  subst hR
  refine ARun.exit rfl ?_
  refine ARun.seq (ARun.region ?_); refine zzm ?_
  refine y_op rfl (OpQ.cast (d' := .bool (decide (0 < s.size))) (ZfT rfl rfl) (congrArg D.bool (show (!_) = _ by rw [str_eq]; show (!decide (sby s = [])) = _; rw [sby_nil, Bool.not_not]))) ?_
  refine zza ?_; refine AOps.nil ?_
  refine ARun.ret ?_
  refine ⟨_, _, _, .tmp rfl .nil, .cons (.same _) .nil, rfl, ?_⟩
  rfl
end Go.V
set_option maxHeartbeats 8000000
set_option maxRecDepth 100000
set_option synthInstance.maxSize 100000
set_option synthInstance.maxHeartbeats 2000000
namespace Go.V
open Go.RowKit Go.Proofs
theorem slong_1 {row len : Int} (h : row = 1 ∨ row = 5) : slong row len = (decide (len ≥ 0) && decide (len ≤ 7)) := by
  unfold slong
  rw [if_pos h]
  split
  · rw [Bool.eq_iff_iff]; simp only [Bool.and_eq_true, decide_eq_true_eq]; omega
  rw [Bool.eq_iff_iff]; simp only [Bool.and_eq_true, decide_eq_true_eq]; omega
theorem slong_2 {row len : Int} (h : row = 2) : slong row len = ((decide (len = 0) || decide (len = 3)) || (decide (len ≥ 8) && decide (len ≤ 11))) := by
  subst h
  unfold slong
  rw [Bool.eq_iff_iff]
  split
  · simp only [Bool.or_eq_true, Bool.and_eq_true, decide_eq_true_eq]; omega
  rw [if_neg (by decide), if_pos rfl]
  simp only [Bool.or_eq_true, Bool.and_eq_true, decide_eq_true_eq]; omega
theorem slong_3 {row len : Int} (h : row = 3) : slong row len = (decide (len = 0) || decide (len = 3)) := by
  subst h
  unfold slong
  rw [Bool.eq_iff_iff]
  split
  · simp only [Bool.or_eq_true, decide_eq_true_eq]; omega
  rw [if_neg (by decide), if_neg (by decide), if_pos rfl]
  simp only [Bool.or_eq_true, decide_eq_true_eq]; omega
theorem slong_4 {row len : Int} (h : row = 0 ∨ row = 4) : slong row len = (decide (row = 4) && decide (len = 0)) := by
  unfold slong
  rw [Bool.eq_iff_iff]
  split
  · simp only [Bool.and_eq_true, decide_eq_true_eq]; omega
  rw [if_neg (by omega), if_neg (by omega), if_neg (by omega)]
  simp only [Bool.and_eq_true, decide_eq_true_eq]
  constructor
  · intro h; cases h
  intro h; omega
theorem Zhq (row len : Int) (hr : 0 ≤ row ∧ row ≤ 5) : PC C Zfz [.int .i64 row, .int .i64 len] (fun o => o = .ret (.bool (slong row len))) := by
  obtain ⟨R, hR⟩ : ∃ R, R = slong row len := ⟨_, rfl⟩
  rw [← hR]
  refine PC.rn ZcR Ze5 Ze6 (rs := [.tmp 4]) (by rw [Ze7]) ?_
  refine ARun.seq (ARun.region ?_); refine zza ?_; refine AOps.nil (ARun.seq (ARun.seq (ARun.region ?_))); refine zzm ?_; refine AOps.nil (ARun.block (ARun.seq (ARun.seq (ARun.region ?_)))); refine zzi ?_; refine zza ?_; refine AOps.nil ?_
  refine ARun.cond rfl (fun b => ?_) (fun b => ?_)
  · skip
    rw [slong_1 (.inl (of_decide_eq_true b))] at hR
    subst hR
    rw [b]
    refine ARun.skip ?_
    refine ARun.condT rfl ?_
    refine ARun.seq (ARun.region ?_); refine zzm ?_; refine zzi ?_; refine zzm ?_
    apply AOps.andJ 11 (fun sj1 => [(11, .any), (12, .any), (13, .any), (14, .bool sj1)]) rfl
    · intro hj1 run1
      try replace hj1 := of_decide_eq_true hj1
      refine zzm ?_; refine zzi ?_; refine zzp ?_
      exact AOps.ag run1
    · intro hj1 run1
      try replace hj1 := of_decide_eq_false hj1
      refine zzk ?_; refine zzk ?_; refine zzp ?_
      exact AOps.ag run1
    refine zza ?_; refine AOps.nil ?_
    refine ARun.ret ?_
    refine ⟨_, _, _, .tmp rfl .nil, .cons (.same _) .nil, rfl, ?_⟩
    rfl
  have b' := of_decide_eq_false b
  clear b
  refine ARun.region ?_; refine zzi ?_; refine zza ?_; refine AOps.nil ?_
  refine ARun.cond rfl (fun d => ?_) (fun d => ?_)
  · skip
    rw [slong_1 (.inr (of_decide_eq_true d))] at hR
    subst hR
    refine ARun.seq (ARun.region ?_); refine zzm ?_; refine zzi ?_; refine zzm ?_
    apply AOps.andJ 11 (fun sj2 => [(11, .any), (12, .any), (13, .any), (14, .bool sj2)]) rfl
    · intro hj2 run2
      try replace hj2 := of_decide_eq_true hj2
      refine zzm ?_; refine zzi ?_; refine zzp ?_
      exact AOps.ag run2
    · intro hj2 run2
      try replace hj2 := of_decide_eq_false hj2
      refine zzk ?_; refine zzk ?_; refine zzp ?_
      exact AOps.ag run2
    refine zza ?_; refine AOps.nil ?_
    refine ARun.ret ?_
    refine ⟨_, _, _, .tmp rfl .nil, .cons (.same _) .nil, rfl, ?_⟩
    rfl
  have d' := of_decide_eq_false d
  refine ARun.seq (ARun.region ?_); refine zzi ?_; refine zza ?_; refine AOps.nil ?_
  refine ARun.ite rfl (fun e => ?_) (fun e => ?_)
  · skip
    rw [slong_2 e] at hR
    subst hR
    refine ARun.seq (ARun.region ?_); refine zzm ?_
    refine y_op rfl (OpQ.cast (d' := .bool (decide (len = 0))) (q_int rfl rfl rfl) rfl) ?_
    refine zzm ?_
    apply AOps.orJ 19 (fun sj3 => [(19, .any), (20, .any), (21, .any), (22, .bool sj3)]) rfl
    · intro hj3 run3
      try replace hj3 := of_decide_eq_true hj3
      refine zzk ?_; refine zzk ?_; refine zzp ?_
      exact AOps.ag run3
    · intro hj3 run3
      try replace hj3 := of_decide_eq_false hj3
      refine zzm ?_
      refine y_op rfl (OpQ.cast (d' := .bool (decide (len = 3))) (q_int rfl rfl rfl) rfl) ?_
      refine zzp ?_
      exact AOps.ag run3
    refine zzm ?_
    apply AOps.orJ 23 (fun sj4 => [(23, .any), (24, .any), (25, .any), (26, .any), (27, .any), (28, .any), (29, .any), (30, .bool sj4)]) rfl
    · intro hj4 run4
      try replace hj4 := of_decide_eq_true hj4
      refine zzk ?_; refine zzk ?_; refine zzk ?_; refine zzk ?_; refine zzk ?_; refine zzk ?_; refine zzp ?_
      exact AOps.ag run4
    · intro hj4 run4
      try replace hj4 := of_decide_eq_false hj4
      refine zzm ?_; refine zzi ?_; refine zzm ?_
      apply AOps.andJ 26 (fun sj5 => [(26, .any), (27, .any), (28, .any), (29, .bool sj5)]) rfl
      · intro hj5 run5
        try replace hj5 := of_decide_eq_true hj5
        refine zzm ?_; refine zzi ?_; refine zzp ?_
        exact AOps.ag run5
      · intro hj5 run5
        try replace hj5 := of_decide_eq_false hj5
        refine zzk ?_; refine zzk ?_; refine zzp ?_
        exact AOps.ag run5
      refine zzp ?_
      exact AOps.ag run4
    refine zza ?_; refine AOps.nil ?_
    refine ARun.ret ?_
    refine ⟨_, _, _, .tmp rfl .nil, .cons (.same _) .nil, rfl, ?_⟩
    rfl
  refine ARun.seq (ARun.region ?_); refine zzi ?_; refine zza ?_; refine AOps.nil ?_
  refine ARun.ite rfl (fun f => ?_) (fun f => ?_)
  · skip
    rw [slong_3 f] at hR
    subst hR
    refine ARun.seq (ARun.region ?_); refine zzm ?_
    refine y_op rfl (OpQ.cast (d' := .bool (decide (len = 0))) (q_int rfl rfl rfl) rfl) ?_
    refine zzm ?_
    apply AOps.orJ 35 (fun sj6 => [(35, .any), (36, .any), (37, .any), (38, .bool sj6)]) rfl
    · intro hj6 run6
      try replace hj6 := of_decide_eq_true hj6
      refine zzk ?_; refine zzk ?_; refine zzp ?_
      exact AOps.ag run6
    · intro hj6 run6
      try replace hj6 := of_decide_eq_false hj6
      refine zzm ?_
      refine y_op rfl (OpQ.cast (d' := .bool (decide (len = 3))) (q_int rfl rfl rfl) rfl) ?_
      refine zzp ?_
      exact AOps.ag run6
    refine zza ?_; refine AOps.nil ?_
    refine ARun.ret ?_
    refine ⟨_, _, _, .tmp rfl .nil, .cons (.same _) .nil, rfl, ?_⟩
    rfl
  rw [slong_4 (by omega)] at hR
  subst hR
  refine ARun.skip (ARun.inBlock (ARun.seq (ARun.region ?_))); refine zzm ?_
  refine y_op rfl (OpQ.cast (d' := .bool (decide (row = 4))) (q_int rfl rfl rfl) rfl) ?_
  refine zzm ?_
  apply AOps.andJ 41 (fun sj7 => [(41, .any), (42, .any), (43, .any), (44, .bool sj7)]) rfl
  · intro hj7 run7
    try replace hj7 := of_decide_eq_true hj7
    refine zzm ?_
    refine y_op rfl (OpQ.cast (d' := .bool (decide (len = 0))) (q_int rfl rfl rfl) rfl) ?_
    refine zzp ?_
    exact AOps.ag run7
  · intro hj7 run7
    try replace hj7 := of_decide_eq_false hj7
    refine zzk ?_; refine zzk ?_; refine zzp ?_
    exact AOps.ag run7
  refine zza ?_; refine AOps.nil ?_
  refine ARun.ret ?_
  refine ⟨_, _, _, .tmp rfl .nil, .cons (.same _) .nil, rfl, ?_⟩
  rfl
end Go.V
set_option maxHeartbeats 8000000
set_option maxRecDepth 100000
set_option synthInstance.maxSize 100000
set_option synthInstance.maxHeartbeats 2000000
namespace Go.V
open Go.RowKit Go.Proofs
theorem Zeo (l : List Pc) (hl : l.length ≤ 1099511627776) : PC C ZdD [slP l] (fun o => o = .ret (.bool (sord l 0))) := by
  obtain ⟨R, hR⟩ : ∃ R, R = sord l 0 := ⟨_, rfl⟩
  rw [← hR]
  refine PC.rn ZbF Zdq Zdr (rs := [.tmp 2]) (by rw [Zds]) ?_
  refine ARun.seq (ARun.region ?_); refine zza ?_; refine AOps.nil (ARun.seq (ARun.region ?_)); refine zza ?_; refine AOps.nil (ARun.seq (ARun.seq (ARun.region ?_))); refine zzm ?_; refine zzN ?_; refine zzm ?_; refine AOps.nil (ARun.block ?_)
  refine ARun.loopI (S := Nat × Nat) (fun σ : Nat × Nat => [(2, .any), (5, .any), (9, .any), (10, .any), (11, .any), (12, .any), (13, .any), (14, .any), (15, .any), (16, .any), (17, .any), (18, .any), (19, .any), (20, .any), (21, .any), (8, .int .i64 (σ.1 : Int)), (3, .int .i64 (σ.2 : Int))]) (fun σ : Nat × Nat => []) (fun σ : Nat × Nat => σ.1 ≤ l.length ∧ σ.2 ≤ σ.1 ∧ R = sord (l.drop σ.1) (σ.2 : Int)) (fun σ : Nat × Nat => l.length - σ.1) ((0, 0)) ?_ ?_ ?_ ?_
  · exact ⟨Nat.zero_le _, Nat.le_refl _, hR⟩
  · (repeat' first | exact envLe_nil | apply envLe_any | apply envLe_same)
  · rfl
  rintro ⟨i, n⟩ hinv ih
  dsimp only at hinv ih ⊢
  obtain ⟨i1, i2, i3⟩ := hinv
  refine ARun.seq (ARun.region ?_); refine zzi ?_; refine AOps.nil (ARun.seq ?_)
  refine ARun.ite rfl (fun g => ?_) (fun g => ?_)
  · skip
    have g : i < l.length := by omega
    rw [drop_getD l i pcZ g] at i3
    have hd := pcs_drop l i g
    have hne := pcs_ne g
    generalize l.getD i pcZ = p at *
    refine ARun.skip (ARun.seq (ARun.block (ARun.seq (ARun.region ?_))))
    refine y_op rfl (Zaf rfl rfl rfl rfl (by omega) (by omega) hne hd) ?_
    refine zzL ?_
    refine Zbb rfl rfl rfl rfl rfl rfl rfl rfl rfl rfl rfl ?_
    refine AOps.nil (ARun.seq (ARun.region ?_)); refine zzf ?_; refine zzl ?_; refine zzi ?_; refine AOps.nil ?_
    refine ARun.ite rfl (fun a => ?_) (fun a => ?_)
    · skip
      rw [sord, if_pos a] at i3
      refine ARun.seq (ARun.region ?_); refine zzm ?_
      refine y_op rfl (OpQ.cast (d' := .int .i64 ((n + 1 : Nat) : Int)) (q_int rfl rfl rfl) (congrArg (D.int .i64) (by show IntKind.i64.wrap _ = _; rw [IntWalk.i64_in _ (by omega)]; omega))) ?_
      refine zza ?_; refine AOps.nil (ARun.seq (ARun.region ?_)); refine zzf ?_; refine zzl ?_; refine zzm ?_; refine zzi ?_; refine AOps.nil ?_
      refine ARun.cond rfl (fun b => ?_) (fun b => ?_)
      · skip
        have b : ¬ p.arg = (n : Int) + 1 := by
          intro e
          rw [e] at b
          simp at b
        rw [if_neg b] at i3
        subst i3
        refine ARun.seq (ARun.region ?_); refine zza ?_; refine AOps.nil ?_
        refine ARun.ret ?_
        refine ⟨_, _, _, .tmp rfl .nil, .cons (.same _) .nil, rfl, ?_⟩
        rfl
      have b : p.arg = (n : Int) + 1 := by simpa using b
      rw [if_pos b] at i3
      refine ARun.skip (ARun.inBlock (ARun.region ?_))
      refine y_op rfl (q_add rfl rfl (nadd1_i64 (by omega))) ?_
      refine zzm ?_; refine AOps.nil ?_
      refine ARun.again (ih ((i + 1, n + 1)) ?_ ?_) ?_ ?_
      · exact ⟨g, Nat.succ_le_succ i2, i3⟩
      · (dsimp only; omega)
      · (repeat' first | exact envLe_nil | apply envLe_any | apply envLe_same)
      rfl
    rw [sord, if_neg a] at i3
    refine ARun.skip (ARun.inBlock (ARun.region ?_))
    refine y_op rfl (q_add rfl rfl (nadd1_i64 (by omega))) ?_
    refine zzm ?_; refine AOps.nil ?_
    refine ARun.again (ih ((i + 1, n)) ?_ ?_) ?_ ?_
    · exact ⟨g, Nat.le_succ_of_le i2, i3⟩
    · (dsimp only; omega)
    · (repeat' first | exact envLe_nil | apply envLe_any | apply envLe_same)
    rfl
  rw [List.drop_eq_nil_of_le (by omega)] at i3
  subst i3
  refine ARun.exit rfl ?_
  refine ARun.seq (ARun.region ?_); refine zza ?_; refine AOps.nil ?_
  refine ARun.ret ?_
  refine ⟨_, _, _, .tmp rfl .nil, .cons (.same _) .nil, rfl, ?_⟩
  rfl
end Go.V
/- strconv.Itoa: the library's contract, laid at this seat's numbers; the context of tables. -/
set_option maxRecDepth 100000
set_option maxHeartbeats 1000000
namespace Go.V
open Go.Shelf Go.RowKit Go.Proofs
def bRen171 : Ren := ⟨fun | 129 => 99 | 171 => 74 | 243 => 89 | 246 => 93 | 283 => 94 | 284 => 95 | 285 => 96 | 286 => 97 | 317 => 98 | 318 => 100 | 319 => 101 | 320 => 102 | 337 => 103 | 338 => 104 | n => n, fun | 0 => 0 | 2 => 2 | 3 => 3 | 4 => 4 | 5 => 5 | 9 => 9 | 20 => 20 | 37 => 72 | 46 => 126 | 51 => 124 | 53 => 27 | 171 => 116 | 173 => 119 | 212 => 123 | 213 => 125 | 232 => 129 | 233 => 130 | n => n, fun | 17 => 3 | 18 => 4 | 19 => 5 | n => n⟩
theorem bLay171 : LaysM.n171 Tryd.prog bRen171 := {
  mixed := by kernel_rfl
  f129 := Tryd.func99.trans (congrArg some (by kernel_rfl))
  f171 := Tryd.func74.trans (congrArg some (by kernel_rfl))
  f243 := Tryd.func89.trans (congrArg some (by kernel_rfl))
  f246 := Tryd.func93.trans (congrArg some (by kernel_rfl))
  f283 := Tryd.func94.trans (congrArg some (by kernel_rfl))
  f284 := Tryd.func95.trans (congrArg some (by kernel_rfl))
  f285 := Tryd.func96.trans (congrArg some (by kernel_rfl))
  f286 := Tryd.func97.trans (congrArg some (by kernel_rfl))
  f317 := Tryd.func98.trans (congrArg some (by kernel_rfl))
  f318 := Tryd.func100.trans (congrArg some (by kernel_rfl))
  f319 := Tryd.func101.trans (congrArg some (by kernel_rfl))
  f320 := Tryd.func102.trans (congrArg some (by kernel_rfl))
  f337 := Tryd.func103.trans (congrArg some (by kernel_rfl))
  f338 := Tryd.func104.trans (congrArg some (by kernel_rfl))
  t0 := Tryd.underlying0
  a0 := Tryd.isAgg0
  z0 := Tryd.sizeOf0
  v0 := Tryd.zeroValue0
  t2 := Tryd.underlying2
  a2 := Tryd.isAgg2
  z2 := Tryd.sizeOf2
  v2 := Tryd.zeroValue2
  t3 := Tryd.underlying3
  a3 := Tryd.isAgg3
  z3 := Tryd.sizeOf3
  v3 := Tryd.zeroValue3
  t4 := Tryd.underlying4
  a4 := Tryd.isAgg4
  z4 := Tryd.sizeOf4
  v4 := Tryd.zeroValue4
  t5 := Tryd.underlying5
  a5 := Tryd.isAgg5
  z5 := Tryd.sizeOf5
  v5 := Tryd.zeroValue5
  t9 := Tryd.underlying9
  a9 := Tryd.isAgg9
  z9 := Tryd.sizeOf9
  v9 := Tryd.zeroValue9
  t20 := Tryd.underlying20
  a20 := Tryd.isAgg20
  z20 := Tryd.sizeOf20
  v20 := Tryd.zeroValue20
  t37 := Tryd.underlying72
  a37 := Tryd.isAgg72
  z37 := Tryd.sizeOf72
  v37 := Tryd.zeroValue72
  t46 := Tryd.underlying126
  a46 := Tryd.isAgg126
  z46 := Tryd.sizeOf126
  v46 := Tryd.zeroValue126
  t51 := Tryd.underlying124
  a51 := Tryd.isAgg124
  z51 := Tryd.sizeOf124
  v51 := Tryd.zeroValue124
  t53 := Tryd.underlying27
  a53 := Tryd.isAgg27
  z53 := Tryd.sizeOf27
  v53 := Tryd.zeroValue27
  t171 := Tryd.underlying116
  a171 := Tryd.isAgg116
  z171 := Tryd.sizeOf116
  v171 := Tryd.zeroValue116
  t173 := Tryd.underlying119
  a173 := Tryd.isAgg119
  z173 := Tryd.sizeOf119
  v173 := Tryd.zeroValue119
  t212 := Tryd.underlying123
  a212 := Tryd.isAgg123
  z212 := Tryd.sizeOf123
  v212 := Tryd.zeroValue123
  t213 := Tryd.underlying125
  a213 := Tryd.isAgg125
  z213 := Tryd.sizeOf125
  t232 := Tryd.underlying129
  a232 := Tryd.isAgg129
  z232 := Tryd.sizeOf129
  v232 := Tryd.zeroValue129
  t233 := Tryd.underlying130
  a233 := Tryd.isAgg130
  z233 := Tryd.sizeOf130
  v233 := Tryd.zeroValue130
  g17 := by kernel_rfl
  g18 := by kernel_rfl
  g19 := by kernel_rfl
  i0 := by kernel_rfl
  i2 := by kernel_rfl
  i3 := by kernel_rfl
  i4 := by kernel_rfl
  i5 := by kernel_rfl
  i9 := by kernel_rfl
  i20 := by kernel_rfl
  i37 := by kernel_rfl
  i46 := by kernel_rfl
  i51 := by kernel_rfl
  i53 := by kernel_rfl
  i171 := by kernel_rfl
  i173 := by kernel_rfl
  i212 := by kernel_rfl
  i232 := by kernel_rfl
  i233 := by kernel_rfl
  m17 := by kernel_rfl
  m18 := by kernel_rfl
  m19 := by kernel_rfl }
def rowEs : List (Nat × Nat) := [(65, 2), (69, 2), (70, 2), (71, 2), (88, 1), (91, 3), (97, 2), (98, 1), (99, 3), (100, 1), (101, 2), (102, 2), (103, 2), (105, 1), (110, 5), (111, 1), (112, 4), (115, 3), (117, 1), (120, 1)]
def rowKs : List D := rowEs.map fun e => D.int .u8 (e.1 : Int)
def rowVs : List D := rowEs.map fun e => D.int .i64 (e.2 : Int)
def powCells : List D := Lib.pow10Tab.map fun z => D.int .u64 z
noncomputable def Cg : Ctx := ⟨C.P, [(0, [.mapv rowKs rowVs]), (1, lensA), (3, powCells)], C.ty, C.ok⟩
theorem powTab {w : World} {L : Nat → Prop} (h : GR w L 3 powCells) : Lib.TabIs Tryd.prog w "internal/strconv.uint64pow10" .u64 Lib.pow10Tab := by
  obtain ⟨hv, cur, e, fz, h1, h2⟩ := h
  have hg : Tryd.prog.globalNamed "internal/strconv.uint64pow10" = some 3 := by kernel_rfl
  unfold Lib.TabIs World.var?
  rw [hg]
  simp only [Option.bind_some, h1]
  congr 1
  apply Array.ext
  · rw [h2]; unfold powCells; simp
  intro i hi hi2
  have hl : i < powCells.length := by rw [← h2]; exact hi
  obtain ⟨d, hd⟩ : ∃ d, powCells[i]? = some d := ⟨_, List.getElem?_eq_getElem hl⟩
  obtain ⟨v, k1, _, k3⟩ := VRL_get hv hd
  rw [Nat.zero_add, Addr.add_lit, Nat.zero_add, Lib.cell_of_heap h1] at k1
  unfold powCells at hd
  rw [List.getElem?_map] at hd
  cases hz : Lib.pow10Tab[i]? with
  | none => rw [hz] at hd; cases hd
  | some z =>
    rw [hz] at hd
    injection hd with hd
    subst hd
    simp only [VR] at k3
    subst k3
    rw [Array.getElem?_eq_getElem hi] at k1
    injection k1 with k1
    rw [k1]
    simp only [List.getElem_toArray, List.getElem_map]
    rw [List.getElem?_eq_some_iff] at hz
    obtain ⟨_, hz⟩ := hz
    rw [hz]
theorem PC.of_belowS {C : Ctx} {f : FuncId} {args : List D} {d : D} {v : Value} (he : Enters C.P f) (hv : ∀ (w : World) (L : Nat → Prop) (μ : List Nat) (H : Heap), VR w L μ H d v)
    (h : ∀ (w : World) (L0 : Nat → Prop) (μ : List Nat) (H : Heap) (vs : List Value), SR C L0 w μ H → VRs w (forb L0 μ H) μ H args vs → Calls C.P f vs.toArray w fun e w' => e = .returned v ∧ Below w.heap.size w w') : PC C f args (fun o => o = .ret d) := by
  intro H
  refine ⟨he, fun L0 w μ vs hs ha => (h w L0 μ H vs hs ha).mono fun e w' ⟨h1, h2⟩ => ?_⟩
  have hevo : Evo w w' μ μ H H :=
    ⟨h2.os, h2.tape, h2.output, h2.size, fun k hk _ => h2.block k hk, fun k _ hk => hk, fun _ _ h => h, fun i x hx => ⟨x, hx, fun o e => ⟨o, e, rfl, rfl, rfl, fun b cur _ hw => ⟨cur, by rw [h2.block b (Array.getElem?_eq_some_iff.1 hw).1]; exact hw, rfl⟩⟩⟩⟩
  exact ⟨.ret d, H, μ, ⟨rfl, rfl⟩, hs.next hevo hs.len (fun i o b k1 k2 => (hs.obj i o b k1 k2).same (h2.block b (hs.block_lt k1 k2))) hs.inj hs.own, ⟨v, h1, hv _ _ _ _⟩, hevo⟩
theorem itoa_dnum (n : Nat) : Lib.itoa (n : Int) = (dnum n).map UInt8.ofNat := by
  have e : ∀ n, Lib.decDigits n = (dnum n).map UInt8.ofNat := by
    intro n
    induction n using Nat.strongRecOn with
    | _ n ih =>
      by_cases h : n < 10
      · rw [Lib.decDigits, dif_pos h, dnum_one (by omega), show n % 10 = n by omega]; rfl
      rw [Lib.decDigits, dif_neg h, dnum_big (by omega), List.map_append, ih (n / 10) (by omega)]; rfl
  unfold Lib.itoa
  rw [if_neg (by omega), Int.toNat_natCast]
  exact e n
theorem Zh7 (n : Nat) (hn : n ≤ 1000000) : PC Cg ZbW [.int .i64 (n : Int)] (fun o => o = .ret (.str (bytesOf (dnum n)))) := by
  refine PC.of_belowS (C := Cg) (v := .string (bytesOf (dnum n))) Zfa (fun _ _ _ _ => by simp only [VR]) (fun w L μ H vs hs ha => ?_)
  simp only [VRs, VR] at ha
  obtain ⟨_, _, rfl, rfl, rfl⟩ := ha
  obtain ⟨_, _, hg⟩ := hs.glob 3 powCells (by unfold Cg; simp)
  refine (Any.strconv_Itoa bLay171 (n : Int) (by omega) (by omega) w (powTab hg)).mono fun e w' h => ?_
  obtain ⟨h1, k, os, h2⟩ := h
  refine ⟨by rw [h1, itoa_dnum]; rfl, ?_⟩
  subst h2
  exact ⟨rfl, rfl, rfl, by show w.heap.size ≤ (w.heap ++ os).size; rw [Array.size_append]; omega, fun j hj => by show (w.heap ++ os)[j]? = _; rw [Array.getElem?_append_left hj]⟩
theorem PC.g {f : FuncId} {args : List D} {r : Out → Prop} (h : PC C f args r) : PC Cg f args r := PC.gl (ty := C.ty) (ok := C.ok) h
theorem HC.g {f : FuncId} {H : Heap} {args : List D} {R : Out → Heap → Prop} (h : HC C f H args R) : HC Cg f H args R := HC.gl (ty := C.ty) (ok := C.ok) h
theorem row_of {c : Nat} (h : c < 256) : findI .u8 (c : Int) (rowKs.zip rowVs) = some (if sclass c = 0 then none else some (.int .i64 ((sclass c : Nat) : Int))) := by
  have e : ∀ (l : List (Nat × Nat)), findI .u8 (c : Int) ((l.map fun e => D.int .u8 (e.1 : Int)).zip (l.map fun e => D.int .i64 (e.2 : Int))) = some ((l.find? fun e => decide (c = e.1)).map fun e => D.int .i64 (e.2 : Int)) := by
    intro l
    induction l with
    | nil => rfl
    | cons a l ih =>
      simp only [List.map_cons, List.zip_cons_cons, findI, decide_true, cond_true, List.find?_cons]
      by_cases ha : c = a.1
      · rw [show ((c : Int) == (a.1 : Int)) = true by simp [ha], decide_eq_true ha]; rfl
      rw [show ((c : Int) == (a.1 : Int)) = false by simp; omega, decide_eq_false ha, cond_false]; exact ih
  unfold rowKs rowVs
  rw [e]
  have k : ∀ c, c < 256 → (rowEs.find? fun e => decide (c = e.1)).map (·.2) = if sclass c = 0 then none else some (sclass c) := by decide
  have k := k c h
  split at k
  · rename_i hz
    rw [if_pos hz]
    cases hf : rowEs.find? fun e => decide (c = e.1) with
    | none => rfl
    | some x => rw [hf] at k; cases k
  rename_i hz
  rw [if_neg hz]
  cases hf : rowEs.find? fun e => decide (c = e.1) with
  | none => rw [hf] at k; cases k
  | some x => rw [hf] at k; injection k with k; rw [← k]; rfl
end Go.V
/- A variable that is written once, where an assignment stands between. -/
namespace Go.V
open Go.RowKit
section
variable {C : Ctx} {Q : Post} {ops : Array Oper} {rest : List Oper} {k : List Item} {env env' : List D} {H : Heap} {df : List ADef} {t : Tmp} {T : TypeId} {te : TE} {d : D} {ds : List D} {y : Operand} {ty1 ty2 : TypeId} {p1 p2 : String} {a1 a2 : Array Edge}
theorem Zcn {u : Tmp} {z : Operand} {dm dz : D} {env1 : List D} {ty3 : TypeId} {p3 : String} {a3 : Array Edge} {zs : List D} (ht : C.ty T = some te) (hz : constD te.zero = some dz) (hzs : cellsD dz = some zs) (hzk : zs.all (okCell []) = true) (hzl : zs.length = te.size) (hzm : evO C env z = some dm) (hzt : ∀ t', z = .tmp t' → t' ≠ t) (hy : evO C ((env.set t .any).set u .any) y = some d) (hul : Nat.blt u env.length = true) (htl : Nat.blt t env.length = true) (hc : cellsD d = some ds) (hn : ds.length = te.size) (hok : ds.all (okCell H) = true) (hpu : D.pure.pures ds = true) (htu : t ≠ u) [hp : Put env (some t) (.sptr ds) env1] [hp2 : Put env1 (some u) dm env'] (hk : AOps C Q ops rest k env' H df) :
    AOps C Q ops (⟨some t, .alloc T, ty1, p1, a1, none⟩ :: ⟨some u, .assign z, ty3, p3, a3, none⟩ :: ⟨none, .store T (.tmp t) y, ty2, p2, a2, none⟩ :: rest) k env H df := by
  refine ⟨fun i hi => ⟨fun L0 w0 μ0 H0 w μ a hs hv hd he b cs hrd => ?_⟩⟩
  have ti := (ty_tic ht).1
  have htl' : t < env.length := Nat.le_of_ble_eq_true htl
  have hta : t < a.tmps.size := by have := VRs_length hv; rw [Array.length_toList] at this; rw [this]; exact htl'
  have ho1 : ops[i]? = some ⟨some t, .alloc T, ty1, p1, a1, none⟩ := by have := drop_get hi; simpa using this
  have hi1 := drop_next hi
  have hom : ops[i + 1]? = some ⟨some u, .assign z, ty3, p3, a3, none⟩ := by have := drop_get hi1; simpa using this
  have hi2 := drop_next hi1
  have ho2 : ops[i + 1 + 1]? = some ⟨none, .store T (.tmp t) y, ty2, p2, a2, none⟩ := by have := drop_get hi2; simpa using this
  let w1 := w.alloc (.cells te.zero.cells T)
  let ptr : Value := .pointer (some ⟨w.heap.size, 0, none⟩)
  let b1 := a.put (some t) ptr
  let b2 := b1.put (some u) (b1.eval z)
  have hezm := evO_ok hs hv hzm
  have hbz : b1.eval z = a.eval z := by
    cases z with
    | tmp t' =>
      simp only [Act.eval, b1, Act.put]
      rw [Array.getD_eq_getD_getElem?, Array.getD_eq_getD_getElem?, Array.getElem?_setIfInBounds_ne (fun e => hzt t' rfl e.symm)]
    | const v => rfl
    | global g => rfl
    | func f => rfl
  have hrunm : (execOp b1.eval ⟨some u, .assign z, ty3, p3, a3, none⟩).run C.P w1 = .ok (.value (b1.eval z)) w1 := by simp [execOp]
  have hrun1 : (execOp a.eval ⟨some t, .alloc T, ty1, p1, a1, none⟩).run C.P w = .ok (.value ptr) w1 := by
    simp [execOp, Instr.alloc, ti.run_zero, newVar, newRow, ptr, w1]
  have hnew : w1.heap[w.heap.size]? = some (.cells te.zero.cells T (0, 0)) := heap_alloc_new w _
  obtain ⟨sK, eK⟩ := hs.allocK (.cells te.zero.cells T)
  have st1 := eK.step L0
  have hy0 : evO C env y = some d ∧ b2.eval y = a.eval y := by
    cases y with
    | tmp t' =>
      simp only [evO] at hy ⊢
      rw [List.getElem?_set] at hy
      by_cases e : u = t'
      · subst e
        rw [if_pos rfl, if_pos (by rw [List.length_set]; exact Nat.le_of_ble_eq_true hul)] at hy
        injection hy with hy
        subst hy
        simp [cellsD] at hc
      rw [if_neg e, List.getElem?_set] at hy
      by_cases e2 : t = t'
      · subst e2
        rw [if_pos rfl, if_pos htl'] at hy
        injection hy with hy
        subst hy
        simp [cellsD] at hc
      rw [if_neg e2] at hy
      refine ⟨hy, ?_⟩
      simp only [Act.eval, b2, b1, Act.put]
      rw [Array.getD_eq_getD_getElem?, Array.getD_eq_getD_getElem?, Array.getElem?_setIfInBounds_ne e, Array.getElem?_setIfInBounds_ne e2]
    | const v => exact ⟨hy, rfl⟩
    | global g => exact ⟨hy, rfl⟩
    | func f => exact ⟨hy, rfl⟩
  have ey := evO_ok hs hv hy0.1
  rw [← hy0.2] at ey
  obtain ⟨v1, v2⟩ := cellsD_ok hc hok ey
  have vl := VRs_length v1
  obtain ⟨z1, _⟩ := cellsD_ok (w := w) (L := fun _ => True) (μ := []) (H := []) hzs hzk (constD_ok hz)
  have zl := VRs_length z1
  rw [Array.length_toList] at zl
  have hst := run_storeCells_at C.P w.heap.size 0 T (b2.eval y).cells.toList 0 te.zero.cells w1 hnew (by rw [vl]; omega) v2
  let cur' : Array Value := (te.zero.cells.toList.take 0 ++ (b2.eval y).cells.toList ++ te.zero.cells.toList.drop (0 + (b2.eval y).cells.toList.length)).toArray
  let w2 := w1.setRow w.heap.size cur'
  have hpt : b2.eval (.tmp t) = ptr := by
    simp only [Act.eval, b2, b1, Act.put]
    rw [Array.getD_eq_getD_getElem?, Array.getElem?_setIfInBounds_ne (fun e => htu e.symm), Array.getElem?_setIfInBounds]
    simp [hta]
  have hrun2 : (execOp b2.eval ⟨none, .store T (.tmp t) y, ty2, p2, a2, none⟩).run C.P w1 = .ok .skip w2 := by
    simp only [execOp, hpt, ptr, Sem.run_bind, Instr.storeAt, storeVar, Instr.sureAddr, Sem.run_pure, Result.andThen_ok, ti.run_size]
    have : ¬ (b2.eval y).cells.size ≠ te.size := by
      rw [Array.length_toList] at vl
      omega
    simp only [this, if_false, Sem.run_bind, Sem.run_pure, Result.andThen_ok]
    simp only [Nat.add_zero] at hst
    rw [hst]
    simp [w2, cur']
  rw [List.length_cons, List.length_cons, List.length_cons, List.range'_succ, List.range'_succ, List.range'_succ]
  have hwp1 : Oper.wp C.P ⟨some t, .alloc T, ty1, p1, a1, none⟩ a w (fun a' w' => a' = b1 ∧ w' = w1) (fun _ _ _ => False) := by
    unfold Oper.wp; rw [hrun1]; exact ⟨rfl, rfl⟩
  have hwpm : Oper.wp C.P ⟨some u, .assign z, ty3, p3, a3, none⟩ b1 w1 (fun a' w' => a' = b2 ∧ w' = w1) (fun _ _ _ => False) := by
    unfold Oper.wp; rw [hrunm]; exact ⟨rfl, rfl⟩
  have hwp2 : Oper.wp C.P ⟨none, .store T (.tmp t) y, ty2, p2, a2, none⟩ b2 w1 (fun a' w' => a' = b2 ∧ w' = w2) (fun _ _ _ => False) := by
    unfold Oper.wp; rw [hrun2]; exact ⟨rfl, rfl⟩
  have nd1 : ∀ (d' : Deferred) (w' : World), ¬ ((({ a with defers := d' :: a.defers } : Act).put (some t) undef) = b1 ∧ w' = w1) := fun d' w' ⟨h, _⟩ => no_defer h
  have ndm : ∀ (d' : Deferred) (w' : World), ¬ ((({ b1 with defers := d' :: b1.defers } : Act).put (some u) undef) = b2 ∧ w' = w1) := fun d' w' ⟨h, _⟩ => no_defer h
  have nd2 : ∀ (d' : Deferred) (w' : World), ¬ ((({ b2 with defers := d' :: b2.defers } : Act).put none undef) = b2 ∧ w' = w2) := fun d' w' ⟨h, _⟩ => no_defer (dst := none) (v := undef) h
  rcases op_step (rest := (i + 1) :: (i + 1 + 1) :: List.range' (i + 1 + 1 + 1) rest.length) ho1 (by simp [Region.wanted]) hwp1 (by rintro ⟨_, _, h⟩; exact h) b (.inr nd1) k cs with ⟨a', w', ⟨e1, e2⟩, hst1⟩ | ⟨_, _, _, h, _⟩
  · subst e1; subst e2
    rcases op_step (rest := (i + 1 + 1) :: List.range' (i + 1 + 1 + 1) rest.length) hom (by simp [Region.wanted]) hwpm (by rintro ⟨_, _, h⟩; exact h) b (.inr ndm) k cs with ⟨a', w', ⟨e1, e2⟩, hstm⟩ | ⟨_, _, _, h, _⟩
    rotate_left
    · exact h.elim
    subst e1; subst e2
    rcases op_step (rest := List.range' (i + 1 + 1 + 1) rest.length) ho2 (by simp [Region.wanted]) hwp2 (by rintro ⟨_, _, h⟩; exact h) b (.inr nd2) k cs with ⟨a', w', ⟨e1, e2⟩, hst2⟩ | ⟨_, _, _, h, _⟩
    · subst e1; subst e2
      have hoth : ∀ b', b' < w.heap.size → w2.heap[b']? = w.heap[b']? := fun b' hb' => by
        have h1 : w2.heap[b']? = w1.heap[b']? := setRow_other w1 w.heap.size b' cur' (by omega)
        rw [h1]; exact Below.heap_alloc w _ b' hb'
      have hsz : w2.heap.size = w.heap.size + 1 := by simp [w2, w1]
      have he2 : Evo w w2 μ μ H H := ⟨rfl, rfl, rfl, by omega, fun b' hb' _ => hoth b' hb', fun _ _ h => h, fun _ _ h => h, fun i x hx => ⟨x, hx, fun o' e => ⟨o', e, rfl, rfl, rfl, fun b' cur _ hw => ⟨cur, by rw [hoth b' (Array.getElem?_eq_some_iff.1 hw).1]; exact hw, rfl⟩⟩⟩⟩
      have hs2 : SR C L0 w2 μ H := hs.next he2 hs.len (fun i o b' h1 h2 => (hs.obj i o b' h1 h2).same (hoth b' (hs.block_lt h1 h2))) hs.inj hs.own
      have st2 := he2.step L0
      have hrow : w2.heap[w.heap.size]? = some (.cells cur' T (0, 0)) := setRow_heap w1 w.heap.size te.zero.cells cur' T (0, 0) hnew
      have hvp : VR w2 (forb L0 μ H) μ H (.sptr ds) ptr := by
        simp only [VR]
        refine ⟨⟨w.heap.size, 0, none⟩, rfl, by simp [hsz], fun hfb => Nat.lt_irrefl _ (hs.forb_lt hfb), VRL_mk fun j d' hd' => ?_⟩
        obtain ⟨v, k1, k2⟩ := VRs_get v1 hd'
        refine ⟨v, ?_, v2 v (List.mem_of_getElem? k1), ?_⟩
        · rw [Nat.zero_add, add_lit, cell_row hrow]
          simp only [cur', List.take_zero, List.nil_append, List.getElem?_toArray]
          rw [List.getElem?_append_left (List.getElem?_eq_some_iff.1 k1).1]; exact k1
        exact VR.step st2.pure (VR.drop (pures_at hpu hd') k2)
      have hv2 : VRs w2 (forb L0 μ H) μ H env' b2.tmps.toList := by
        have h1 : VRs w2 (forb L0 μ H) μ H env1 b1.tmps.toList := by
          rw [← hp.eq]
          exact VRs_put (dst := some t) (VRs.step st2 hv) hvp
        rw [← hp2.eq]
        exact VRs_put (dst := some u) h1 (by rw [hbz]; exact VR.step st2 hezm)
      obtain ⟨e, a', w', h3, h4⟩ := (hk.out (i + 1 + 1 + 1) (drop_next hi2)).out L0 w0 μ0 H0 w2 μ b2 hs2 hv2 (by rw [show b2.defers = a.defers from (put_defers b1 _ _).trans (put_defers a _ _)]; exact DfR.step st2 hd) (he.trans he2) b cs (hrd.step he2.map)
      exact ⟨e, a', w', h3, .of_steps (Steps.trans hst1 (Steps.trans hstm hst2)) h4⟩
    exact h.elim
  exact h.elim
end
end Go.V
set_option maxHeartbeats 4000000
set_option maxRecDepth 100000
set_option synthInstance.maxSize 100000
set_option synthInstance.maxHeartbeats 2000000
namespace Go.V
open Go.RowKit Go.Proofs
/-! strings.Builder: a struct that points to itself, and a row of bytes that grows. -/
abbrev bldO (p d : D) : Option AObj := some ⟨[p, d], ZaK, 1, true, none⟩
theorem heap_set_self {H : Heap} {k : Nat} {x : Option AObj} (h : H[k]? = some x) : H.set k x = H := by
  apply List.ext_getElem?
  intro m
  rw [List.getElem?_set]
  split
  · rename_i e; subst e; rw [h, if_pos (List.getElem?_eq_some_iff.1 h).1]
  rfl
theorem heap_set_get {H : Heap} {k : Nat} {x y : Option AObj} (h : H[k]? = some x) : (H.set k y)[k]? = some y := by
  rw [List.getElem?_set, if_pos rfl, if_pos (List.getElem?_eq_some_iff.1 h).1]
theorem ptrB : C.P.underlying ZbB = some (.pointer (C.P.pointee ZbB)) := by kernel_rfl
theorem ZfJ (H : Heap) (k : Nat) (d : D) (hk : H[k]? = some (bldO .nilptr d)) : HC C Zar H [.ptr k 0] (fun x H' => x = .ret (.tup []) ∧ H' = H.set k (bldO (.ptr k 0) d)) := by
  refine HC.run Zap ZaF rfl ZaG (rs := []) (by rw [ZaH]) (by simp only [List.length_cons, List.length_nil, Nat.reduceAdd, Nat.reduceSub, List.replicate_succ, List.replicate_zero, List.cons_append, List.nil_append]; exact rfl) ?_
  refine ARun.seq (ARun.region ?_); refine zzm ?_
  refine y_op rfl (q_nil rfl rfl) ?_
  refine y_op rfl (q_fldP rfl rfl rfl (by decide)) ?_
  refine y_op rfl (Zaa rfl rfl rfl hk rfl) ?_
  refine y_op rfl (Ziq ptrB rfl rfl) ?_
  refine AOps.nil ?_
  refine ARun.condT rfl ?_
  refine ARun.region ?_; refine zzm ?_; refine zzm ?_
  refine y_op rfl (Zhx (e := ZaK) (by kernel_rfl) (by kernel_rfl) rfl (by decide) rfl hk rfl (Nat.le_of_ble_eq_true rfl)) ?_
  refine y_op rfl (Zhy (fn := Tryd.f88) Tryd.func88 (by kernel_rfl) (by kernel_rfl) (by kernel_rfl) (by kernel_rfl) rfl rfl) ?_
  refine y_op rfl (Zgj (e := ZaK) (by kernel_rfl) (by kernel_rfl) rfl (by kernel_rfl) (by decide) (by kernel_rfl) rfl hk rfl rfl (Nat.le_of_ble_eq_true rfl)) ?_
  refine y_op rfl (q_nil rfl rfl) ?_
  refine y_op rfl (q_fldP rfl rfl rfl (by decide)) ?_
  refine y_new rfl (Zad rfl rfl rfl rfl hk rfl (Nat.le_of_ble_eq_true rfl) rfl) ?_
  refine AOps.nil ?_
  refine ARun.nil ?_
  exact ⟨_, _, _, .nil, .nil, rfl, rfl⟩
theorem ZfK (H : Heap) (k : Nat) (d : D) (hk : H[k]? = some (bldO (.ptr k 0) d)) : HC C Zar H [.ptr k 0] (fun x H' => x = .ret (.tup []) ∧ H' = H.set k (bldO (.ptr k 0) d)) := by
  refine HC.run Zap ZaF rfl ZaG (rs := []) (by rw [ZaH]) (by simp only [List.length_cons, List.length_nil, Nat.reduceAdd, Nat.reduceSub, List.replicate_succ, List.replicate_zero, List.cons_append, List.nil_append]; exact rfl) ?_
  refine ARun.seq (ARun.region ?_); refine zzm ?_
  refine y_op rfl (q_nil rfl rfl) ?_
  refine y_op rfl (q_fldP rfl rfl rfl (by decide)) ?_
  refine y_op rfl (Zaa rfl rfl rfl hk rfl) ?_
  refine y_op rfl (Zip ptrB rfl rfl) ?_
  refine AOps.nil ?_
  refine ARun.condF rfl ?_
  refine ARun.seq (ARun.region ?_); refine zzm ?_
  refine y_op rfl (q_nil rfl rfl) ?_
  refine y_op rfl (q_fldP rfl rfl rfl (by decide)) ?_
  refine y_op rfl (Zaa rfl rfl rfl hk rfl) ?_
  refine zzm ?_
  refine y_op rfl (ZgT (e := ZaK) (by kernel_rfl) rfl rfl rfl) ?_
  refine AOps.nil ?_
  refine ARun.condF rfl ?_
  refine ARun.skip ?_
  refine ARun.nil ?_
  exact ⟨_, _, _, .nil, .nil, rfl, (heap_set_self hk).symm⟩
theorem Za6 (H : Heap) (k : Nat) (p d : D) (hp : p = .nilptr ∨ p = .ptr k 0) (hk : H[k]? = some (bldO p d)) : HC C Zar H [.ptr k 0] (fun x H' => x = .ret (.tup []) ∧ H' = H.set k (bldO (.ptr k 0) d)) := by
  rcases hp with rfl | rfl
  · exact ZfJ H k d hk
  exact ZfK H k d hk
theorem strD_sby (s : ByteArray) : strD s = nts .u8 (sby s) := by
  unfold strD sby nts
  rw [List.map_map]; rfl
theorem u8T : TIC C ZaO (tkDesc C.P ZaO) 1 1 (.int .u8 0) := (ty_tic (C := C) (t := ZaO) rfl).1
theorem nts_app (L M : List Nat) : nts .u8 L ++ nts .u8 M = nts .u8 (L ++ M) := by unfold nts; rw [List.map_append]
abbrev rowU (L : List Nat) : Option AObj := some ⟨nts .u8 L, ZaO, 1, true, none⟩
def BldS (H : Heap) (k : Nat) (L : List Nat) : Prop := ∃ p d, (p = .nilptr ∨ p = .ptr k 0) ∧ H[k]? = some (bldO p d) ∧ ((L = [] ∧ d = .nilsl) ∨ (L ≠ [] ∧ ∃ id, id ≠ k ∧ d = .row id L.length ∧ H[id]? = some (rowU L)))
def KeepB (H H' : Heap) (k : Nat) : Prop := H.length ≤ H'.length ∧ ∀ (j : Nat) (o : AObj), H[j]? = some (some o) → j ≠ k → o.elem ≠ ZaO → H'[j]? = some (some o)
theorem KeepB.refl (H : Heap) (k : Nat) : KeepB H H k := ⟨Nat.le_refl _, fun _ _ h _ _ => h⟩
theorem KeepB.trans {H1 H2 H3 : Heap} {k : Nat} (h : KeepB H1 H2 k) (g : KeepB H2 H3 k) : KeepB H1 H3 k := ⟨Nat.le_trans h.1 g.1, fun j o a b c => g.2 j o (h.2 j o a b c) b c⟩
theorem BldS.new {H : Heap} {k : Nat} (h : H[k]? = some (bldO .nilptr .nilsl)) : BldS H k [] := ⟨_, _, .inl rfl, h, .inl ⟨rfl, rfl⟩⟩
theorem BldS.keep {H H' : Heap} {k : Nat} {L : List Nat} (h : BldS H k L) (hk : ∀ j x, H[j]? = some (some x) → x.elem = ZaO ∨ j = k → H'[j]? = some (some x)) : BldS H' k L := by
  obtain ⟨p, d, h1, h2, h3⟩ := h
  refine ⟨p, d, h1, hk k _ h2 (.inr rfl), h3.imp id fun ⟨a, id, b, c, e⟩ => ⟨a, id, b, c, hk id _ e (.inl rfl)⟩⟩
theorem okApp {A : Heap} {r : AObj} {i n : Nat} (h : i = A.length) : okCell (A ++ [some r]) (.row i n) = true := by
  subst h
  show (true && match (A ++ [some r])[A.length]? with | some (some _) => true | _ => false) = true
  rw [List.getElem?_append_right (Nat.le_refl _)]; simp
theorem nil_post {H : Heap} {k : Nat} {p : D} {M : List Nat} {n i : Nat} (hk : H[k]? = some (bldO p .nilsl)) (hM : M ≠ []) (hn : n = M.length) (hi : i = H.length) : 
    BldS ((H.set k (bldO (.ptr k 0) .nilsl) ++ [rowU M]).set k (bldO (.ptr k 0) (.row i n))) k M ∧ KeepB H ((H.set k (bldO (.ptr k 0) .nilsl) ++ [rowU M]).set k (bldO (.ptr k 0) (.row i n))) k := by
  subst hn; subst hi
  have hlt := (List.getElem?_eq_some_iff.1 hk).1
  refine ⟨⟨_, _, .inr rfl, ?_, .inr ⟨hM, H.length, by omega, rfl, ?_⟩⟩, by simp, fun j o h1 h2 h3 => ?_⟩
  · rw [List.getElem?_set, if_pos rfl, if_pos (by simp; omega)]
  · rw [List.getElem?_set_ne (by omega), List.getElem?_append_right (by simp)]; simp
  have := (List.getElem?_eq_some_iff.1 h1).1
  rw [List.getElem?_set_ne (fun e => h2 e.symm), List.getElem?_append_left (by simp; omega), List.getElem?_set_ne (fun e => h2 e.symm)]; exact h1
theorem row_post {H : Heap} {k id : Nat} {p : D} {L M : List Nat} {m n i : Nat} (hk : H[k]? = some (bldO p (.row id m))) (hid : H[id]? = some (rowU L)) (hne : id ≠ k) (hL : L ≠ []) (hn : n = (L ++ M).length) (hi : i = H.length) :
    BldS ((((H.set k (bldO (.ptr k 0) (.row id m))).set id none) ++ [rowU (L ++ M)]).set k (bldO (.ptr k 0) (.row i n))) k (L ++ M) ∧
      KeepB H ((((H.set k (bldO (.ptr k 0) (.row id m))).set id none) ++ [rowU (L ++ M)]).set k (bldO (.ptr k 0) (.row i n))) k := by
  subst hn; subst hi
  have hlt := (List.getElem?_eq_some_iff.1 hk).1
  refine ⟨⟨_, _, .inr rfl, ?_, .inr ⟨by simp [hL], H.length, by omega, rfl, ?_⟩⟩, by simp, fun j o h1 h2 h3 => ?_⟩
  · rw [List.getElem?_set, if_pos rfl, if_pos (by simp; omega)]
  · rw [List.getElem?_set_ne (by omega), List.getElem?_append_right (by simp)]; simp
  have := (List.getElem?_eq_some_iff.1 h1).1
  have hji : id ≠ j := by rintro rfl; rw [hid] at h1; injection h1 with h1; injection h1 with h1; subst h1; exact h3 rfl
  rw [List.getElem?_set_ne (fun e => h2 e.symm), List.getElem?_append_left (by simp; omega), List.getElem?_set_ne hji, List.getElem?_set_ne (fun e => h2 e.symm)]; exact h1
theorem ZeI (H : Heap) (k : Nat) (p : D) (hp : p = .nilptr ∨ p = .ptr k 0) (hk : H[k]? = some (bldO p .nilsl)) (s : ByteArray) (h0 : 0 < s.size) (hl : 0 + s.size ≤ 1099511627776) : HC C Zan H [.ptr k 0, .str s] (fun x H' => x = .ret (.tup [.int .i64 (s.size : Int), .niliface]) ∧ BldS H' k (sby s) ∧ KeepB H H' k) := by
  refine HC.run Zam Zav rfl Zaw (rs := [.tmp 4, .tmp 5]) (by rw [Zax]) (by simp only [List.length_cons, List.length_nil, Nat.reduceAdd, Nat.reduceSub, List.replicate_succ, List.replicate_zero, List.cons_append, List.nil_append]; exact rfl) ?_
  refine ARun.seq (ARun.region ?_); refine zza ?_; refine zza ?_; refine AOps.nil (ARun.seq (ARun.region ?_)); refine zzm ?_
  refine Zah rfl rfl rfl rfl (Za6 _ k p _ hp hk) ?_ (by rintro _ _ ⟨h, _⟩; cases h)
  rintro d1 H1 ⟨h1, h2⟩
  injection h1 with h1
  subst h1
  subst h2
  have hk1 := heap_set_get (y := bldO (.ptr k 0) .nilsl) hk
  refine AOps.nil (ARun.seq (ARun.region ?_)); refine zzm ?_; refine zzm ?_
  refine y_op rfl (q_nil rfl rfl) ?_
  refine y_op rfl (q_fldP rfl rfl rfl (by decide)) ?_
  refine y_op rfl (Zaa rfl rfl rfl hk1 rfl) ?_
  refine zzm ?_
  refine y_new rfl (Zfh (ty_slice rfl) (ty_str rfl) u8T rfl rfl h0 (by omega)) ?_
  rw [strD_sby]
  have hk2 : ((H.set k (bldO (.ptr k 0) .nilsl)) ++ [rowU (sby s)])[k]? = some (bldO (.ptr k 0) .nilsl) := by
    rw [List.getElem?_append_left (by simp; have := (List.getElem?_eq_some_iff.1 hk).1; omega)]; exact hk1
  refine y_op rfl (q_nil rfl rfl) ?_
  refine y_op rfl (q_fldP rfl rfl rfl (by decide)) ?_
  refine y_new rfl (Zad rfl rfl rfl (okApp (by simp)) hk2 rfl (Nat.le_of_ble_eq_true rfl) rfl) ?_
  refine AOps.nil (ARun.seq (ARun.region ?_)); refine zzm ?_
  refine y_op rfl (Zag rfl rfl) ?_
  refine zza ?_; refine zza ?_; refine AOps.nil ?_
  refine ARun.ret ?_
  exact ⟨_, _, _, .tmp rfl (.tmp rfl .nil), .cons (.same _) (.cons (.same _) .nil), rfl, nil_post hk (fun e => by have := sby_len s; rw [e] at this; simp at this; omega) (sby_len s).symm (by simp)⟩
theorem ZeJ (H : Heap) (k : Nat) (p : D) (hp : p = .nilptr ∨ p = .ptr k 0) (L : List Nat) (id : Nat) (hne : id ≠ k) (hL : L ≠ []) (hk : H[k]? = some (bldO p (.row id L.length))) (hid : H[id]? = some (rowU L)) (s : ByteArray) (h0 : 0 < s.size) (hl : L.length + s.size ≤ 1099511627776) : HC C Zan H [.ptr k 0, .str s] (fun x H' => x = .ret (.tup [.int .i64 (s.size : Int), .niliface]) ∧ BldS H' k ((L ++ sby s)) ∧ KeepB H H' k) := by
  refine HC.run Zam Zav rfl Zaw (rs := [.tmp 4, .tmp 5]) (by rw [Zax]) (by simp only [List.length_cons, List.length_nil, Nat.reduceAdd, Nat.reduceSub, List.replicate_succ, List.replicate_zero, List.cons_append, List.nil_append]; exact rfl) ?_
  refine ARun.seq (ARun.region ?_); refine zza ?_; refine zza ?_; refine AOps.nil (ARun.seq (ARun.region ?_)); refine zzm ?_
  refine Zah rfl rfl rfl rfl (Za6 _ k p _ hp hk) ?_ (by rintro _ _ ⟨h, _⟩; cases h)
  rintro d1 H1 ⟨h1, h2⟩
  injection h1 with h1
  subst h1
  subst h2
  have hk1 := heap_set_get (y := bldO (.ptr k 0) (.row id L.length)) hk
  have hi1 : (H.set k (bldO (.ptr k 0) (.row id L.length)))[id]? = some (rowU L) := by rw [List.getElem?_set_ne (fun e => hne e.symm)]; exact hid
  refine AOps.nil (ARun.seq (ARun.region ?_)); refine zzm ?_; refine zzm ?_
  refine y_op rfl (q_nil rfl rfl) ?_
  refine y_op rfl (q_fldP rfl rfl rfl (by decide)) ?_
  refine y_op rfl (Zaa rfl rfl rfl hk1 rfl) ?_
  refine zzm ?_
  refine y_new rfl (ZgS (ty_slice rfl) (ty_str rfl) u8T rfl hi1 rfl rfl rfl rfl (by omega)) ?_
  rw [strD_sby]
  rw [nts_app]
  have hk2 : (((H.set k (bldO (.ptr k 0) (.row id L.length))).set id none) ++ [rowU (L ++ sby s)])[k]? = some (bldO (.ptr k 0) (.row id L.length)) := by
    rw [List.getElem?_append_left (by simp; have := (List.getElem?_eq_some_iff.1 hk).1; omega), List.getElem?_set_ne hne]; exact hk1
  refine y_op rfl (q_nil rfl rfl) ?_
  refine y_op rfl (q_fldP rfl rfl rfl (by decide)) ?_
  refine y_new rfl (Zad rfl rfl rfl (okApp (by simp)) hk2 rfl (Nat.le_of_ble_eq_true rfl) rfl) ?_
  refine AOps.nil (ARun.seq (ARun.region ?_)); refine zzm ?_
  refine y_op rfl (Zag rfl rfl) ?_
  refine zza ?_; refine zza ?_; refine AOps.nil ?_
  refine ARun.ret ?_
  exact ⟨_, _, _, .tmp rfl (.tmp rfl .nil), .cons (.same _) (.cons (.same _) .nil), rfl, row_post hk hid hne hL (by rw [List.length_append, sby_len]) (by simp)⟩
theorem Zb0 (H : Heap) (k : Nat) (L : List Nat) (hb : BldS H k L) (s : ByteArray) (h0 : 0 < s.size) (hl : L.length + s.size ≤ 1099511627776) : HC C Zan H [.ptr k 0, .str s] (fun x H' => x = .ret (.tup [.int .i64 (s.size : Int), .niliface]) ∧ BldS H' k (L ++ sby s) ∧ KeepB H H' k) := by
  obtain ⟨p, d, h1, h2, ⟨rfl, rfl⟩ | ⟨h3, id, h4, rfl, h5⟩⟩ := hb
  · exact ZeI H k p h1 h2 s h0 (by simpa using hl)
  exact ZeJ H k p h1 L id h4 h3 h2 h5 s h0 hl
theorem ZfL (H : Heap) (k : Nat) (p : D) (hp : p = .nilptr ∨ p = .ptr k 0) (hk : H[k]? = some (bldO p .nilsl)) (c : Nat) (hl : 0 + 1 ≤ 1099511627776) : HC C Zaq H [.ptr k 0, .int .u8 (c : Int)] (fun x H' => x = .ret .niliface ∧ BldS H' k ([c]) ∧ KeepB H H' k) := by
  refine HC.run Zao ZaC rfl ZaD (rs := [.tmp 4]) (by rw [ZaE]) (by simp only [List.length_cons, List.length_nil, Nat.reduceAdd, Nat.reduceSub, List.replicate_succ, List.replicate_zero, List.cons_append, List.nil_append]; exact rfl) ?_
  refine ARun.seq (ARun.region ?_); refine zza ?_; refine AOps.nil (ARun.seq (ARun.region ?_)); refine zzm ?_
  refine Zah rfl rfl rfl rfl (Za6 _ k p _ hp hk) ?_ (by rintro _ _ ⟨h, _⟩; cases h)
  rintro d1 H1 ⟨h1, h2⟩
  injection h1 with h1
  subst h1
  subst h2
  have hk1 := heap_set_get (y := bldO (.ptr k 0) .nilsl) hk
  refine AOps.nil (ARun.seq (ARun.region ?_)); refine zzm ?_; refine zzm ?_
  refine y_op rfl (q_nil rfl rfl) ?_
  refine y_op rfl (q_fldP rfl rfl rfl (by decide)) ?_
  refine y_op rfl (Zaa rfl rfl rfl hk1 rfl) ?_
  refine zzm ?_
  refine y_op rfl (Zba rfl rfl rfl rfl rfl rfl rfl rfl rfl rfl rfl (by decide) (by decide) rfl) ?_
  refine y_new rfl (Zde (m := 1) (news := [D.int .u8 (c : Int)]) rfl rfl (by decide) rfl rfl rfl rfl rfl rfl rfl (by decide) (by show 1 * 1 ≤ _; omega) (by rw [maxLen_eq]; omega)) ?_
  have hk2 : ((H.set k (bldO (.ptr k 0) .nilsl)) ++ [rowU ([c])])[k]? = some (bldO (.ptr k 0) .nilsl) := by
    rw [List.getElem?_append_left (by simp; have := (List.getElem?_eq_some_iff.1 hk).1; omega)]; exact hk1
  refine y_op rfl (q_nil rfl rfl) ?_
  refine y_op rfl (q_fldP rfl rfl rfl (by decide)) ?_
  refine y_new rfl (Zad rfl rfl rfl (okApp (by simp)) hk2 rfl (Nat.le_of_ble_eq_true rfl) rfl) ?_
  refine AOps.nil (ARun.seq (ARun.region ?_)); refine zza ?_; refine AOps.nil ?_
  refine ARun.ret ?_
  exact ⟨_, _, _, .tmp rfl .nil, .cons (.same _) .nil, rfl, nil_post (M := [c]) hk (by simp) rfl (by simp)⟩
theorem ZfM (H : Heap) (k : Nat) (p : D) (hp : p = .nilptr ∨ p = .ptr k 0) (L : List Nat) (id : Nat) (hne : id ≠ k) (hL : L ≠ []) (hk : H[k]? = some (bldO p (.row id L.length))) (hid : H[id]? = some (rowU L)) (c : Nat) (hl : L.length + 1 ≤ 1099511627776) : HC C Zaq H [.ptr k 0, .int .u8 (c : Int)] (fun x H' => x = .ret .niliface ∧ BldS H' k ((L ++ [c])) ∧ KeepB H H' k) := by
  refine HC.run Zao ZaC rfl ZaD (rs := [.tmp 4]) (by rw [ZaE]) (by simp only [List.length_cons, List.length_nil, Nat.reduceAdd, Nat.reduceSub, List.replicate_succ, List.replicate_zero, List.cons_append, List.nil_append]; exact rfl) ?_
  refine ARun.seq (ARun.region ?_); refine zza ?_; refine AOps.nil (ARun.seq (ARun.region ?_)); refine zzm ?_
  refine Zah rfl rfl rfl rfl (Za6 _ k p _ hp hk) ?_ (by rintro _ _ ⟨h, _⟩; cases h)
  rintro d1 H1 ⟨h1, h2⟩
  injection h1 with h1
  subst h1
  subst h2
  have hk1 := heap_set_get (y := bldO (.ptr k 0) (.row id L.length)) hk
  have hi1 : (H.set k (bldO (.ptr k 0) (.row id L.length)))[id]? = some (rowU L) := by rw [List.getElem?_set_ne (fun e => hne e.symm)]; exact hid
  refine AOps.nil (ARun.seq (ARun.region ?_)); refine zzm ?_; refine zzm ?_
  refine y_op rfl (q_nil rfl rfl) ?_
  refine y_op rfl (q_fldP rfl rfl rfl (by decide)) ?_
  refine y_op rfl (Zaa rfl rfl rfl hk1 rfl) ?_
  refine zzm ?_
  refine y_op rfl (Zba rfl rfl rfl rfl rfl rfl rfl rfl rfl rfl rfl (by decide) (by decide) rfl) ?_
  refine y_new rfl (ZfX (m := 1) (news := [D.int .u8 (c : Int)]) rfl rfl (by decide) rfl rfl rfl rfl hi1 rfl rfl rfl rfl rfl rfl (by show (_ + 1) * 1 ≤ _; omega) (by rw [maxLen_eq]; omega) rfl) ?_
  rw [show [D.int .u8 (c : Int)] = nts .u8 [c] from rfl, nts_app]
  have hk2 : (((H.set k (bldO (.ptr k 0) (.row id L.length))).set id none) ++ [rowU (L ++ [c])])[k]? = some (bldO (.ptr k 0) (.row id L.length)) := by
    rw [List.getElem?_append_left (by simp; have := (List.getElem?_eq_some_iff.1 hk).1; omega), List.getElem?_set_ne hne]; exact hk1
  refine y_op rfl (q_nil rfl rfl) ?_
  refine y_op rfl (q_fldP rfl rfl rfl (by decide)) ?_
  refine y_new rfl (Zad rfl rfl rfl (okApp (by simp)) hk2 rfl (Nat.le_of_ble_eq_true rfl) rfl) ?_
  refine AOps.nil (ARun.seq (ARun.region ?_)); refine zza ?_; refine AOps.nil ?_
  refine ARun.ret ?_
  exact ⟨_, _, _, .tmp rfl .nil, .cons (.same _) .nil, rfl, row_post hk hid hne hL (by rw [List.length_append]; rfl) (by simp)⟩
theorem Za7 (H : Heap) (k : Nat) (L : List Nat) (hb : BldS H k L) (c : Nat) (hl : L.length + 1 ≤ 1099511627776) : HC C Zaq H [.ptr k 0, .int .u8 (c : Int)] (fun x H' => x = .ret .niliface ∧ BldS H' k (L ++ [c]) ∧ KeepB H H' k) := by
  obtain ⟨p, d, h1, h2, ⟨rfl, rfl⟩ | ⟨h3, id, h4, rfl, h5⟩⟩ := hb
  · exact ZfL H k p h1 h2 c (by simpa using hl)
  exact ZfM H k p h1 L id h4 h3 h2 h5 c hl
theorem ZhM (H : Heap) (k : Nat) (p : D) (hp : p = .nilptr ∨ p = .ptr k 0) (hk : H[k]? = some (bldO p .nilsl)) (M : List Nat) (h0 : 0 < M.length) (hl : 0 + M.length ≤ 1099511627776) : HC C Zay H [.ptr k 0, .sl M.length (nts .u8 M)] (fun x H' => x = .ret (.tup [.int .i64 (M.length : Int), .niliface]) ∧ BldS H' k (M) ∧ KeepB H H' k) := by
  refine HC.run Zau Za0 rfl Za1 (rs := [.tmp 4, .tmp 5]) (by rw [Za2]) (by simp only [List.length_cons, List.length_nil, Nat.reduceAdd, Nat.reduceSub, List.replicate_succ, List.replicate_zero, List.cons_append, List.nil_append]; exact rfl) ?_
  refine ARun.seq (ARun.region ?_); refine zza ?_; refine zza ?_; refine AOps.nil (ARun.seq (ARun.region ?_)); refine zzm ?_
  refine Zah rfl rfl rfl rfl (Za6 _ k p _ hp hk) ?_ (by rintro _ _ ⟨h, _⟩; cases h)
  rintro d1 H1 ⟨h1, h2⟩
  injection h1 with h1
  subst h1
  subst h2
  have hk1 := heap_set_get (y := bldO (.ptr k 0) .nilsl) hk
  refine AOps.nil (ARun.seq (ARun.region ?_)); refine zzm ?_; refine zzm ?_
  refine y_op rfl (q_nil rfl rfl) ?_
  refine y_op rfl (q_fldP rfl rfl rfl (by decide)) ?_
  refine y_op rfl (Zaa rfl rfl rfl hk1 rfl) ?_
  refine zzm ?_
  refine y_new rfl (Zde (m := M.length) (news := nts .u8 M) rfl rfl (by decide) rfl rfl rfl rfl rfl rfl (by rw [nts_length, Nat.mul_one]) h0 (by show M.length * 1 ≤ _; omega) (by rw [maxLen_eq]; omega)) ?_
  have hk2 : ((H.set k (bldO (.ptr k 0) .nilsl)) ++ [rowU (M)])[k]? = some (bldO (.ptr k 0) .nilsl) := by
    rw [List.getElem?_append_left (by simp; have := (List.getElem?_eq_some_iff.1 hk).1; omega)]; exact hk1
  refine y_op rfl (q_nil rfl rfl) ?_
  refine y_op rfl (q_fldP rfl rfl rfl (by decide)) ?_
  refine y_new rfl (Zad rfl rfl rfl (okApp (by simp)) hk2 rfl (Nat.le_of_ble_eq_true rfl) rfl) ?_
  refine AOps.nil (ARun.seq (ARun.region ?_)); refine zzm ?_; refine zzN ?_; refine zza ?_; refine zza ?_; refine AOps.nil ?_
  refine ARun.ret ?_
  exact ⟨_, _, _, .tmp rfl (.tmp rfl .nil), .cons (.same _) (.cons (.same _) .nil), rfl, nil_post hk (fun e => by rw [e] at h0; exact absurd h0 (by decide)) rfl (by simp)⟩
theorem ZhN (H : Heap) (k : Nat) (p : D) (hp : p = .nilptr ∨ p = .ptr k 0) (L : List Nat) (id : Nat) (hne : id ≠ k) (hL : L ≠ []) (hk : H[k]? = some (bldO p (.row id L.length))) (hid : H[id]? = some (rowU L)) (M : List Nat) (h0 : 0 < M.length) (hl : L.length + M.length ≤ 1099511627776) : HC C Zay H [.ptr k 0, .sl M.length (nts .u8 M)] (fun x H' => x = .ret (.tup [.int .i64 (M.length : Int), .niliface]) ∧ BldS H' k ((L ++ M)) ∧ KeepB H H' k) := by
  refine HC.run Zau Za0 rfl Za1 (rs := [.tmp 4, .tmp 5]) (by rw [Za2]) (by simp only [List.length_cons, List.length_nil, Nat.reduceAdd, Nat.reduceSub, List.replicate_succ, List.replicate_zero, List.cons_append, List.nil_append]; exact rfl) ?_
  refine ARun.seq (ARun.region ?_); refine zza ?_; refine zza ?_; refine AOps.nil (ARun.seq (ARun.region ?_)); refine zzm ?_
  refine Zah rfl rfl rfl rfl (Za6 _ k p _ hp hk) ?_ (by rintro _ _ ⟨h, _⟩; cases h)
  rintro d1 H1 ⟨h1, h2⟩
  injection h1 with h1
  subst h1
  subst h2
  have hk1 := heap_set_get (y := bldO (.ptr k 0) (.row id L.length)) hk
  have hi1 : (H.set k (bldO (.ptr k 0) (.row id L.length)))[id]? = some (rowU L) := by rw [List.getElem?_set_ne (fun e => hne e.symm)]; exact hid
  refine AOps.nil (ARun.seq (ARun.region ?_)); refine zzm ?_; refine zzm ?_
  refine y_op rfl (q_nil rfl rfl) ?_
  refine y_op rfl (q_fldP rfl rfl rfl (by decide)) ?_
  refine y_op rfl (Zaa rfl rfl rfl hk1 rfl) ?_
  refine zzm ?_
  refine y_new rfl (ZfX (m := M.length) (news := nts .u8 M) rfl rfl (by decide) rfl rfl rfl rfl hi1 rfl rfl rfl rfl rfl (by rw [nts_length, Nat.mul_one]) (by show (_ + M.length) * 1 ≤ _; omega) (by rw [maxLen_eq]; omega) rfl) ?_
  rw [nts_app]
  have hk2 : (((H.set k (bldO (.ptr k 0) (.row id L.length))).set id none) ++ [rowU (L ++ M)])[k]? = some (bldO (.ptr k 0) (.row id L.length)) := by
    rw [List.getElem?_append_left (by simp; have := (List.getElem?_eq_some_iff.1 hk).1; omega), List.getElem?_set_ne hne]; exact hk1
  refine y_op rfl (q_nil rfl rfl) ?_
  refine y_op rfl (q_fldP rfl rfl rfl (by decide)) ?_
  refine y_new rfl (Zad rfl rfl rfl (okApp (by simp)) hk2 rfl (Nat.le_of_ble_eq_true rfl) rfl) ?_
  refine AOps.nil (ARun.seq (ARun.region ?_)); refine zzm ?_; refine zzN ?_; refine zza ?_; refine zza ?_; refine AOps.nil ?_
  refine ARun.ret ?_
  exact ⟨_, _, _, .tmp rfl (.tmp rfl .nil), .cons (.same _) (.cons (.same _) .nil), rfl, row_post hk hid hne hL (by rw [List.length_append]) (by simp)⟩
theorem Zis (H : Heap) (k : Nat) (L : List Nat) (hb : BldS H k L) (M : List Nat) (h0 : 0 < M.length) (hl : L.length + M.length ≤ 1099511627776) : HC C Zay H [.ptr k 0, .sl M.length (nts .u8 M)] (fun x H' => x = .ret (.tup [.int .i64 (M.length : Int), .niliface]) ∧ BldS H' k (L ++ M) ∧ KeepB H H' k) := by
  obtain ⟨p, d, h1, h2, ⟨rfl, rfl⟩ | ⟨h3, id, h4, rfl, h5⟩⟩ := hb
  · exact ZhM H k p h1 h2 M h0 (by simpa using hl)
  exact ZhN H k p h1 L id h4 h3 h2 h5 M h0 hl
theorem Zit (H : Heap) (k : Nat) (p : D) (hk : H[k]? = some (bldO p .nilsl)) : HC C ZaI H [.ptr k 0] (fun x H' => x = .ret (.int .i64 0) ∧ H' = H) := by
  refine HC.run ZaB Zbe rfl Zbf (rs := [.tmp 2]) (by rw [Zbg]) (by simp only [List.length_cons, List.length_nil, Nat.reduceAdd, Nat.reduceSub, List.replicate_succ, List.replicate_zero, List.cons_append, List.nil_append]; exact rfl) ?_
  refine ARun.seq (ARun.region ?_); refine zza ?_; refine AOps.nil (ARun.seq (ARun.region ?_)); refine zzm ?_
  refine y_op rfl (q_nil rfl rfl) ?_
  refine y_op rfl (q_fldP rfl rfl rfl (by decide)) ?_
  refine y_op rfl (Zaa rfl rfl rfl hk rfl) ?_
  refine y_op rfl (ZfU rfl rfl) ?_
  refine zza ?_; refine AOps.nil ?_
  refine ARun.ret ?_
  exact ⟨_, _, _, .tmp rfl .nil, .cons (.same _) .nil, rfl, rfl⟩
theorem Ziu (H : Heap) (k id n : Nat) (p : D) (o : AObj) (hk : H[k]? = some (bldO p (.row id n))) (hid : H[id]? = some (some o)) : HC C ZaI H [.ptr k 0] (fun x H' => x = .ret (.int .i64 (n : Int)) ∧ H' = H) := by
  refine HC.run ZaB Zbe rfl Zbf (rs := [.tmp 2]) (by rw [Zbg]) (by simp only [List.length_cons, List.length_nil, Nat.reduceAdd, Nat.reduceSub, List.replicate_succ, List.replicate_zero, List.cons_append, List.nil_append]; exact rfl) ?_
  refine ARun.seq (ARun.region ?_); refine zza ?_; refine AOps.nil (ARun.seq (ARun.region ?_)); refine zzm ?_
  refine y_op rfl (q_nil rfl rfl) ?_
  refine y_op rfl (q_fldP rfl rfl rfl (by decide)) ?_
  refine y_op rfl (Zaa rfl rfl rfl hk rfl) ?_
  refine y_op rfl (ZfV rfl hid rfl) ?_
  refine zza ?_; refine AOps.nil ?_
  refine ARun.ret ?_
  exact ⟨_, _, _, .tmp rfl .nil, .cons (.same _) .nil, rfl, rfl⟩
theorem hc_Len (H : Heap) (k : Nat) (L : List Nat) (hb : BldS H k L) : HC C ZaI H [.ptr k 0] (fun x H' => x = .ret (.int .i64 (L.length : Int)) ∧ H' = H) := by
  obtain ⟨p, d, h1, h2, ⟨rfl, rfl⟩ | ⟨h3, id, h4, rfl, h5⟩⟩ := hb
  · exact Zit H k p h2
  exact Ziu H k id _ p _ h2 h5
theorem kill_keep {H : Heap} {k id : Nat} {L : List Nat} (hid : H[id]? = some (rowU L)) : KeepB H (H.set id none) k := ⟨by simp, fun j o h1 h2 h3 => by
  have hji : id ≠ j := by rintro rfl; rw [hid] at h1; injection h1 with h1; injection h1 with h1; subst h1; exact h3 rfl
  rw [List.getElem?_set_ne hji]; exact h1⟩
theorem Zhl (H : Heap) (k : Nat) (p : D) (hk : H[k]? = some (bldO p .nilsl)) : HC C Zat H [.ptr k 0] (fun x H' => x = .ret (.str (bytesOf [])) ∧ KeepB H H' k) := by
  refine HC.run Zas ZaR rfl ZaS (rs := [.tmp 2]) (by rw [ZaT]) (by simp only [List.length_cons, List.length_nil, Nat.reduceAdd, Nat.reduceSub, List.replicate_succ, List.replicate_zero, List.cons_append, List.nil_append]; exact rfl) ?_
  refine ARun.seq (ARun.region ?_); refine zza ?_; refine AOps.nil (ARun.seq ?_)
  refine ARun.drawnP 10 (fun _ => False) mixC rfl rfl (by kernel_rfl) (fun _ _ h => h.elim) ?_
  refine .op rfl (q_move rfl) ?_
  refine .op rfl (q_nil rfl rfl) ?_
  refine .op rfl (q_fldP rfl rfl rfl (by decide)) ?_
  refine .op rfl (Zaa rfl rfl rfl hk rfl) ?_
  refine .op rfl (Zfi rfl) ?_
  refine .op rfl (q_move rfl) ?_
  refine .op rfl (q_nil rfl rfl) ?_
  refine .op rfl (q_fldP rfl rfl rfl (by decide)) ?_
  refine .op rfl (Zaa rfl rfl rfl hk rfl) ?_
  refine .op rfl (ZfU rfl rfl) ?_
  refine .nil (fun hG => ?_)
  refine y_op rfl (Zfj rfl rfl) ?_
  refine zza ?_; refine AOps.nil ?_
  refine ARun.ret ?_
  exact ⟨_, _, _, .tmp rfl .nil, .cons (.same _) .nil, rfl, KeepB.refl _ _⟩
theorem strD_bytes {L : List Nat} (h : ∀ c ∈ L, c < 256) : nts .u8 L = strD (bytesOf L) := by rw [strD_sby, sby_bytesOf h]
theorem Zhm (H : Heap) (k id : Nat) (p : D) (L : List Nat) (hk : H[k]? = some (bldO p (.row id L.length))) (hid : H[id]? = some (rowU L)) (hL : ∀ x ∈ L, x < 256) (h0 : L ≠ []) (hl : L.length ≤ 1099511627776) : HC C Zat H [.ptr k 0] (fun x H' => x = .ret (.str (bytesOf L)) ∧ KeepB H H' k) := by
  have hn : L.length ≠ 0 := fun e => h0 (List.eq_nil_of_length_eq_zero e)
  refine HC.run Zas ZaR rfl ZaS (rs := [.tmp 2]) (by rw [ZaT]) (by simp only [List.length_cons, List.length_nil, Nat.reduceAdd, Nat.reduceSub, List.replicate_succ, List.replicate_zero, List.cons_append, List.nil_append]; exact rfl) ?_
  refine ARun.seq (ARun.region ?_); refine zza ?_; refine AOps.nil (ARun.seq ?_)
  refine ARun.drawnP 10 (fun _ => False) mixC rfl rfl (by kernel_rfl) (fun _ _ h => h.elim) ?_
  refine .op rfl (q_move rfl) ?_
  refine .op rfl (q_nil rfl rfl) ?_
  refine .op rfl (q_fldP rfl rfl rfl (by decide)) ?_
  refine .op rfl (Zaa rfl rfl rfl hk rfl) ?_
  refine .op rfl (ZgU rfl hid hn) ?_
  refine .op rfl (q_move rfl) ?_
  refine .op rfl (q_nil rfl rfl) ?_
  refine .op rfl (q_fldP rfl rfl rfl (by decide)) ?_
  refine .op rfl (Zaa rfl rfl rfl hk rfl) ?_
  refine .op rfl (ZfV rfl hid rfl) ?_
  refine .nil (fun hG => ?_)
  refine y_new rfl (ZgV (e := ZaO) (by kernel_rfl) (by kernel_rfl) rfl rfl hid rfl rfl rfl (strD_bytes hL) (bytesOf_size _) hn hl) ?_
  refine zza ?_; refine AOps.nil ?_
  refine ARun.ret ?_
  exact ⟨_, _, _, .tmp rfl .nil, .cons (.same _) .nil, rfl, kill_keep hid⟩
theorem ZgK (H : Heap) (k : Nat) (L : List Nat) (hb : BldS H k L) (hL : ∀ x ∈ L, x < 256) (hl : L.length ≤ 1099511627776) : HC C Zat H [.ptr k 0] (fun x H' => x = .ret (.str (bytesOf L)) ∧ KeepB H H' k) := by
  obtain ⟨p, d, h1, h2, ⟨rfl, rfl⟩ | ⟨h3, id, h4, rfl, h5⟩⟩ := hb
  · exact Zhl H k p h2
  exact Zhm H k id p L h2 h5 hL h3 hl
end Go.V
set_option maxHeartbeats 8000000
set_option maxRecDepth 100000
set_option synthInstance.maxSize 100000
set_option synthInstance.maxHeartbeats 2000000
namespace Go.V
open Go.RowKit Go.Proofs
/-! The RUNS of a set, yielded. -/
def rinC (S : Nat → Bool) (c : Nat) : Bool := decide (c < 256) && rin S c
theorem rin_alt (S : Nat → Bool) (c : Nat) : rinC S c = ((((decide (c < 256) && S c) && !decide (c = 93)) && !decide (c = 94)) && !decide (c = 45)) := by
  unfold rinC rin
  cases decide (c < 256) <;> cases S c <;> cases decide (c = 93) <;> cases decide (c = 94) <;> cases decide (c = 45) <;> rfl
theorem ZfQ (S : Nat → Bool) (c : Nat) (hc : c ≤ 256) : PC C Zbl [.int .i64 (c : Int), .sptr (swL S)] (fun o => o = .ret (.bool (rinC S c))) := by
  rw [rin_alt]
  refine PC.rn ZbT ZdI ZdJ (rs := [.tmp 3]) (by rw [ZdK]) ?_
  refine ARun.seq (ARun.region ?_); refine zza ?_; refine AOps.nil (ARun.seq (ARun.region ?_)); refine zzm ?_
  refine y_op rfl (OpQ.cast (d' := .bool (decide (c < 256))) (q_int rfl rfl rfl) (congrArg D.bool (decide_eq_decide.2 (by omega)))) ?_
  refine zzm ?_
  apply AOps.andJ 6 (fun sj1 => [(6, .any), (7, .any), (8, .any), (9, .any), (10, .any), (11, .bool sj1)]) rfl
  · intro hj1 run1
    try replace hj1 := of_decide_eq_true hj1
    refine zzL ?_; refine zzm ?_
    refine y_op rfl (q_conv rfl rfl rfl (show _ = (c : Int) by rw [IntKind.wrap_u8]; omega)) ?_
    refine zzc rfl rfl (ZaL S c (by omega)) ?_
    refine zzp ?_
    exact AOps.ag run1
  · intro hj1 run1
    try replace hj1 := of_decide_eq_false hj1
    refine zzk ?_; refine zzk ?_; refine zzk ?_; refine zzk ?_; refine zzp ?_
    exact AOps.ag run1
  refine zzm ?_
  apply AOps.andJ 12 (fun sj2 => [(12, .any), (13, .any), (14, .any), (15, .bool sj2)]) rfl
  · intro hj2 run2
    try replace hj2 := of_decide_eq_true hj2
    refine zzm ?_
    refine y_op rfl (OpQ.cast (d' := .bool (!decide (c = 93))) (q_int rfl rfl rfl) (congrArg D.bool (by rw [Bool.eq_iff_iff]; simp; omega))) ?_
    refine zzp ?_
    exact AOps.ag run2
  · intro hj2 run2
    try replace hj2 := of_decide_eq_false hj2
    refine zzk ?_; refine zzk ?_; refine zzp ?_
    exact AOps.ag run2
  refine zzm ?_
  apply AOps.andJ 16 (fun sj3 => [(16, .any), (17, .any), (18, .any), (19, .bool sj3)]) rfl
  · intro hj3 run3
    try replace hj3 := of_decide_eq_true hj3
    refine zzm ?_
    refine y_op rfl (OpQ.cast (d' := .bool (!decide (c = 94))) (q_int rfl rfl rfl) (congrArg D.bool (by rw [Bool.eq_iff_iff]; simp; omega))) ?_
    refine zzp ?_
    exact AOps.ag run3
  · intro hj3 run3
    try replace hj3 := of_decide_eq_false hj3
    refine zzk ?_; refine zzk ?_; refine zzp ?_
    exact AOps.ag run3
  refine zzm ?_
  apply AOps.andJ 20 (fun sj4 => [(20, .any), (21, .any), (22, .any), (23, .bool sj4)]) rfl
  · intro hj4 run4
    try replace hj4 := of_decide_eq_true hj4
    refine zzm ?_
    refine y_op rfl (OpQ.cast (d' := .bool (!decide (c = 45))) (q_int rfl rfl rfl) (congrArg D.bool (by rw [Bool.eq_iff_iff]; simp; omega))) ?_
    refine zzp ?_
    exact AOps.ag run4
  · intro hj4 run4
    try replace hj4 := of_decide_eq_false hj4
    refine zzk ?_; refine zzk ?_; refine zzp ?_
    exact AOps.ag run4
  refine zza ?_; refine AOps.nil ?_
  refine ARun.ret ?_
  refine ⟨_, _, _, .tmp rfl .nil, .cons (.same _) .nil, rfl, ?_⟩
  rfl
theorem Zh8 (S : Nat → Bool) : PC C Ze2 [setD S] (fun o => o = .ret (.clos Zcf [.sptr [.clos Zbl [.sptr (swL S)]]])) := by
  refine PC.rn Zcz ZeF ZeG (rs := [.tmp 2]) (by rw [ZeH]) ?_
  refine ARun.seq (ARun.region ?_); refine zzb ?_; refine zza ?_; refine AOps.nil (ARun.seq (ARun.region ?_))
  refine y_op rfl (Zho rfl) ?_
  refine Zbb rfl rfl rfl rfl rfl rfl rfl rfl rfl rfl rfl ?_
  refine AOps.nil (ARun.seq (ARun.region ?_))
  refine y_op rfl (Zho rfl) ?_
  refine zza ?_; refine AOps.nil ?_
  refine ARun.ret ?_
  refine ⟨_, _, _, .tmp rfl .nil, .cons (.same _) .nil, rfl, ?_⟩
  rfl
theorem rinC_rin {S : Nat → Bool} {c : Nat} (h : c < 256) : rinC S c = rin S c := by unfold rinC; rw [decide_eq_true h, Bool.true_and]
theorem Ziv (S : Nat → Bool) (H0 : Heap) (id : Nat) (ps : List Tmp) (hps : ps.length = 2) (asg bd : Code) (envL : List D) (W : List Nat → Heap → Prop) (L0 : List Nat)
    (hW : ∀ L H, W L H → H[id]? = some (loopO .ready ps.toArray asg bd envL))
    (hround : ∀ (c d : Nat) (L : List Nat) (H : Heap), W L H → 1 ≤ c → c ≤ d → d < 256 → L.length ≤ L0.length + c → ARun C (QRound id (fun j H' => j = none ∧ H'[id]? = some (loopO .busy ps.toArray asg bd envL) ∧ W (L ++ wr c d) (H'.set id (loopO .ready ps.toArray asg bd envL)))) [.code asg, .beginRound, .code bd] (setL envL (ps.zip [.int .u8 (c : Int), .int .u8 (d : Int)])) H [])
    (h0 : W L0 H0) :
    HC C Zcf H0 [.yld id, .sptr [.clos Zbl [.sptr (swL S)]]] (fun o H' => o = .ret (.tup []) ∧ W (L0 ++ rtx S 1) H') := by
  obtain ⟨T, hT⟩ : ∃ T, T = L0 ++ rtx S 1 := ⟨_, rfl⟩
  rw [← hT]
  refine HC.run ZbU ZdL rfl ZdM (rs := []) (by rw [ZdN]) (by simp only [List.length_cons, List.length_nil, Nat.reduceAdd, Nat.reduceSub, List.replicate_succ, List.replicate_zero, List.cons_append, List.nil_append]; exact rfl) ?_
  refine ARun.seq (ARun.region ?_); refine zza ?_; refine AOps.nil (ARun.block ?_)
  refine ARun.loopI (S := Nat × List Nat × Heap) (fun σ : Nat × List Nat × Heap => [(4, .any), (5, .any), (6, .any), (7, .any), (8, .any), (9, .any), (10, .any), (11, .any), (12, .any), (13, .any), (14, .any), (15, .any), (16, .any), (17, .any), (18, .any), (19, .any), (20, .any), (21, .any), (22, .any), (23, .any), (24, .any), (25, .any), (26, .any), (3, .int .i64 (σ.1 : Int))]) (fun σ : Nat × List Nat × Heap => σ.2.2) (fun σ : Nat × List Nat × Heap => 1 ≤ σ.1 ∧ σ.1 ≤ 256 ∧ W σ.2.1 σ.2.2 ∧ T = σ.2.1 ++ rtx S σ.1 ∧ σ.2.1.length + 1 ≤ L0.length + σ.1) (fun σ : Nat × List Nat × Heap => 256 - σ.1) ((1, L0, H0)) ?_ ?_ ?_ ?_
  · exact ⟨Nat.le_refl _, (by (dsimp only; omega)), h0, hT, Nat.le_refl _⟩
  · (repeat' first | exact envLe_nil | apply envLe_any | apply envLe_same)
  · rfl
  rintro ⟨c, L, H⟩ hinv ih
  dsimp only at hinv ih ⊢
  obtain ⟨i1, i2, i3, i4, i5⟩ := hinv
  refine ARun.seq (ARun.seq (ARun.region ?_)); refine zzm ?_; refine zzi ?_; refine AOps.nil ?_
  refine ARun.ite rfl (fun g => ?_) (fun g => ?_)
  · skip
    have g : c < 256 := by omega
    refine ARun.skip (ARun.seq (ARun.block (ARun.seq (ARun.seq (ARun.region ?_))))); refine zzl ?_; refine zzm ?_
    refine zzc rfl rfl (ZfQ S c (by omega)) ?_
    refine zzn ?_; refine AOps.nil ?_
    refine ARun.cond rfl (fun a => ?_) (fun a => ?_)
    · skip
      have a : rin S c = false := by rw [← rinC_rin g]; simpa using a
      rw [rtx_no g a] at i4
      refine ARun.exit rfl ?_
      refine ARun.region ?_; refine zzm ?_
      refine y_op rfl (q_add rfl rfl (nadd1_i64 (by omega))) ?_
      refine zza ?_; refine AOps.nil ?_
      refine ARun.again (ih ((c + 1, L, H)) ?_ ?_) ?_ ?_
      · exact ⟨by omega, g, i3, i4, by dsimp only; omega⟩
      · (dsimp only; omega)
      · (repeat' first | exact envLe_nil | apply envLe_any | apply envLe_same)
      rfl
    have a : rin S c = true := by rw [← rinC_rin g]; simpa using a
    have hge := rend_ge S c
    have hlt := rend_lt S c g
    rw [rtx_yes g a] at i4
    obtain ⟨e, he⟩ : ∃ e, e = rend S c := ⟨_, rfl⟩
    rw [← he] at i4 hge hlt
    refine ARun.skip (ARun.seq (ARun.region ?_)); refine zzm ?_; refine zza ?_; refine AOps.nil (ARun.seq (ARun.block ?_))
    refine ARun.loopI (S := Nat) (fun d : Nat => [(14, .any), (15, .any), (16, .any), (17, .any), (18, .any), (19, .any), (3, .int .i64 (d : Int))]) (fun d : Nat => H) (fun d : Nat => c ≤ d ∧ d ≤ e ∧ rend S d = e) (fun d : Nat => 256 - d) (c) ?_ ?_ ?_ ?_
    · exact ⟨Nat.le_refl _, hge, he.symm⟩
    · (repeat' first | exact envLe_nil | apply envLe_any | apply envLe_same)
    · rfl
    rintro d hinv ih2
    obtain ⟨d1, d2, d3⟩ := hinv
    refine ARun.seq (ARun.seq (ARun.region ?_)); refine zzl ?_; refine zzm ?_
    refine y_op rfl (OpQ.cast (d' := .int .i64 ((d + 1 : Nat) : Int)) (q_int rfl rfl rfl) (congrArg (D.int .i64) (by show IntKind.i64.wrap _ = _; rw [IntWalk.i64_in _ (by omega)]; omega))) ?_
    refine zzc rfl rfl (ZfQ S (d + 1) (by omega)) ?_
    refine AOps.nil ?_
    refine ARun.cond rfl (fun y => ?_) (fun y => ?_)
    · skip
      have y2 : d + 1 < 256 ∧ rin S (d + 1) = true := by
        unfold rinC at y
        rw [Bool.and_eq_true, decide_eq_true_eq] at y; exact y
      rw [rend_yes y2.1 y2.2] at d3
      have := rend_ge S (d + 1)
      refine ARun.skip (ARun.block (ARun.region ?_)); refine zzm ?_
      refine y_op rfl (OpQ.cast (d' := .int .i64 ((d + 1 : Nat) : Int)) (q_int rfl rfl rfl) (congrArg (D.int .i64) (by show IntKind.i64.wrap _ = _; rw [IntWalk.i64_in _ (by omega)]; omega))) ?_
      refine zza ?_; refine AOps.nil (ARun.inBlock ?_)
      refine ARun.again (ih2 (d + 1) ?_ ?_) ?_ ?_
      · exact ⟨by omega, by omega, d3⟩
      · omega
      · (repeat' first | exact envLe_nil | apply envLe_any | apply envLe_same)
      rfl
    have y2 : ¬ (d + 1 < 256 ∧ rin S (d + 1) = true) := by
      rintro ⟨y1, y2⟩
      unfold rinC at y
      rw [decide_eq_true y1, y2] at y; cases y
    rw [rend_no y2] at d3
    subst d3
    clear ih2 y y2 d2 he
    refine ARun.exit rfl ?_
    refine ARun.seq (ARun.region ?_); refine zzm ?_; refine zzm ?_
    refine y_op rfl (q_conv rfl rfl rfl (show _ = (c : Int) by rw [IntKind.wrap_u8]; omega)) ?_
    refine zzm ?_
    refine y_op rfl (q_conv rfl rfl rfl (show _ = (d : Int) by rw [IntKind.wrap_u8]; omega)) ?_
    refine AOps.yieldI _ rfl rfl rfl (hW _ _ i3) (by rw [hps]; rfl) rfl (hround c d L H i3 i1 d1 hlt (by omega)) ?_ ?_ ?_
    · rintro q H' ⟨rfl, h1, _⟩
      exact h1
    · skip
      rintro H' ⟨_, h1, h2⟩
      refine zzn ?_; refine AOps.nil ?_
      refine ARun.condF rfl ?_
      refine ARun.skip (ARun.inBlock (ARun.region ?_)); refine zzm ?_
      refine y_op rfl (q_add rfl rfl (nadd1_i64 (by omega))) ?_
      refine zza ?_; refine AOps.nil ?_
      have hwl := wr_len c d
      refine ARun.again (ih ((d + 1, L ++ wr c d, H'.set id (loopO .ready ps.toArray asg bd envL))) ?_ ?_) ?_ ?_
      · exact ⟨by (dsimp only; omega), by (dsimp only; omega), h2, by (dsimp only; rw [List.append_assoc]; exact i4), by (dsimp only; rw [List.length_append]; omega)⟩
      · (dsimp only; omega)
      · (repeat' first | exact envLe_nil | apply envLe_any | apply envLe_same)
      rfl
    rintro c _ ⟨h, _⟩
    cases h
  obtain rfl : c = 256 := by omega
  rw [rtx_end, List.append_nil] at i4
  subst i4
  refine ARun.exit rfl ?_
  refine ARun.nil ?_
  exact ⟨_, _, _, .nil, .nil, rfl, i3⟩
end Go.V
