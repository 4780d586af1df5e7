/- A part of the proof: abstract values, rules for the steps of the program's form, and contracts of its functions, each proved; no condition. -/
import Derived.Test.YtjohcjagbodicaaGreatDoorA15
import Derived.Shelf.Strings.Search1
set_option linter.unusedVariables false
set_option linter.unusedSimpArgs false
set_option maxHeartbeats 4000000
set_option maxRecDepth 100000
set_option synthInstance.maxSize 100000
set_option synthInstance.maxHeartbeats 2000000
namespace Go.V
open Go.RowKit Go.Proofs
def sby (s : ByteArray) : List Nat := s.data.toList.map (·.toNat)
theorem sby_len (s : ByteArray) : (sby s).length = s.size := by
  unfold sby; rw [List.length_map, Array.length_toList]; rfl
theorem sby_lt {s : ByteArray} (i : Nat) : (sby s).getD i 0 < 256 := by
  rw [List.getD_eq_getElem?_getD]
  unfold sby
  rw [List.getElem?_map]
  cases h : s.data.toList[i]? with
  | none => decide
  | some u => exact u.toNat_lt
theorem sby_get {s : ByteArray} {i : Nat} (h1 : ((i : Nat) : Int).toNat < s.size) : ((s[((i : Nat) : Int).toNat]'h1).toNat : Int) = (((sby s).getD i 0 : Nat) : Int) := by
  have h3 : i < s.data.size := by simpa using h1
  have h4 : s[((i : Nat) : Int).toNat]'h1 = s.data[i]'h3 := rfl
  rw [h4, List.getD_eq_getElem?_getD]
  unfold sby
  rw [List.getElem?_map, Array.getElem?_toList, Array.getElem?_eq_getElem h3]
  rfl
def figU (up : Bool) (d : Nat) : Nat := bif up then upN (fig d) else fig d
theorem Zls (d : Nat) (hd : d < 36) (up : Bool) : PC C Zj8 [.int .i64 (d : Int), .bool up] (fun o => o = .ret (.int .u8 ((figU up d : Nat) : Int))) := by
  refine PC.run Zem ZiX rfl ZiY rfl (rs := [.tmp 4]) (by rw [ZiZ]) (by simp only [List.length_cons, List.length_nil, Nat.reduceAdd, Nat.reduceSub, List.replicate_succ, List.replicate_zero, List.cons_append, List.nil_append]; exact rfl) ?_
  refine ARun.seq (ARun.region ?_)
  refine y_op rfl (Zaa rfl) ?_
  refine AOps.nil (ARun.seq (ARun.seq (ARun.region ?_)))
  refine y_op rfl (q_move rfl) ?_
  refine y_op rfl (q_int rfl rfl rfl) ?_
  refine AOps.nil ?_
  refine ARun.ite rfl (fun h => ?_) (fun h => ?_)
  · skip
    have h : d < 10 := by omega
    have e : figU up d = 48 + d := by
      unfold figU fig
      rw [if_pos h]
      cases up
      · rfl
      · show upN (48 + d) = 48 + d
        unfold upN; rw [if_neg (by omega)]
    refine ARun.seq (ARun.region ?_)
    refine y_op rfl (q_move rfl) ?_
    refine y_op rfl (q_add rfl rfl (nadd_i64 (m := 48) (by omega))) ?_
    refine y_op rfl (q_conv rfl rfl rfl (show _ = ((48 + d : Nat) : Int) by rw [IntKind.wrap_u8]; omega)) ?_
    refine y_op rfl (Zaa rfl) ?_
    refine AOps.nil ?_
    refine ARun.ret ?_
    refine ⟨_, _, _, .tmp rfl .nil, .cons (.same _) .nil, rfl, ?_⟩
    rw [e]; rfl
  · skip
    have h : ¬ d < 10 := by omega
    refine ARun.skip (ARun.seq (ARun.seq (ARun.region ?_)))
    refine y_op rfl (q_move rfl) ?_
    refine AOps.nil ?_
    refine ARun.cond rfl (fun h2 => ?_) (fun h2 => ?_)
    · skip
      obtain rfl : up = true := h2
      have e : figU true d = 55 + d := by
        show upN (fig d) = _
        unfold fig upN
        rw [if_neg h, if_pos (by omega)]; omega
      refine ARun.seq (ARun.region ?_)
      refine y_op rfl (q_move rfl) ?_
      refine y_op rfl (q_add rfl rfl (nadd_i64 (m := 65) (by omega))) ?_
      refine y_op rfl (q_sub rfl rfl (nsub_i64 (n := 10) (by omega) (by omega))) ?_
      refine y_op rfl (q_conv rfl rfl rfl (show _ = ((55 + d : Nat) : Int) by rw [IntKind.wrap_u8]; omega)) ?_
      refine y_op rfl (Zaa rfl) ?_
      refine AOps.nil ?_
      refine ARun.ret ?_
      refine ⟨_, _, _, .tmp rfl .nil, .cons (.same _) .nil, rfl, ?_⟩
      rw [e]; rfl
    · skip
      obtain rfl : up = false := h2
      have e : figU false d = 87 + d := by
        show fig d = _
        unfold fig
        rw [if_neg h]
      refine ARun.skip (ARun.seq (ARun.region ?_))
      refine y_op rfl (q_move rfl) ?_
      refine y_op rfl (q_add rfl rfl (nadd_i64 (m := 97) (by omega))) ?_
      refine y_op rfl (q_sub rfl rfl (nsub_i64 (n := 10) (by omega) (by omega))) ?_
      refine y_op rfl (q_conv rfl rfl rfl (show _ = ((87 + d : Nat) : Int) by rw [IntKind.wrap_u8]; omega)) ?_
      refine y_op rfl (Zaa rfl) ?_
      refine AOps.nil ?_
      refine ARun.ret ?_
      refine ⟨_, _, _, .tmp rfl .nil, .cons (.same _) .nil, rfl, ?_⟩
      rw [e]; rfl
def nmV (b : Nat) (acc : Nat) (l : List Nat) : Nat := l.foldl (fun a c => if digV c < b then a * b + digV c else a) acc
theorem nmV_lt {b : Nat} (hb0 : 0 < b) (hb : b ≤ 36) (l : List Nat) : nmV b 0 l < B ^ l.length := by
  have key : ∀ (l : List Nat) (acc k : Nat), acc < B ^ k → nmV b acc l < B ^ (k + l.length) := by
    intro l
    induction l with
    | nil => intro acc k h; exact h
    | cons c l ih =>
      intro acc k h
      have hs : B ^ (k + 1) = B ^ k * 4294967296 := Nat.pow_succ ..
      have := ih (if digV c < b then acc * b + digV c else acc) (k + 1) (by
        split
        · rename_i hd
          have h1 : (acc + 1) * b ≤ B ^ k * 4294967296 := Nat.mul_le_mul h (by omega)
          rw [Nat.add_mul, Nat.one_mul] at h1
          omega
        · omega)
      rw [List.length_cons, show k + (l.length + 1) = k + 1 + l.length by omega]
      exact this
  have := key l 0 0 (by rw [Nat.pow_zero]; decide)
  rwa [Nat.zero_add] at this
theorem nmV_snoc (b acc : Nat) (l : List Nat) (c : Nat) : nmV b acc (l ++ [c]) = if digV c < b then nmV b acc l * b + digV c else nmV b acc l := by
  unfold nmV; rw [List.foldl_append]; rfl
theorem lim_dig1 {b : Nat} (h0 : 0 < b) (h : b < B) : lim b = [b] := by
  rw [lim_pos (by omega), Nat.mod_eq_of_lt h, Nat.div_eq_of_lt h, lim_zero]
theorem numD_dig1 {b : Nat} (h0 : 0 < b) (h : b < B) : D.sl 1 [.int .u32 (b : Int)] = numD b := by rw [numD, lim_dig1 h0 h]; rfl
theorem nmV_ln {b : Nat} (hb0 : 0 < b) (hb : b ≤ 36) (l : List Nat) : (lim (nmV b 0 l)).length ≤ l.length := ln_le (nmV_lt hb0 hb l)
theorem Zlt (s : ByteArray) (hs : s.size ≤ 20000) (b : Nat) (hb0 : 2 ≤ b) (hb : b ≤ 36) : PC C ZjW [.str s, .int .i64 (b : Int)] (fun o => o = .ret (numD (nmV b 0 (sby s)))) := by
  have hL := sby_len s
  refine PC.run Zei ZiU rfl ZiV rfl (rs := [.tmp 4]) (by rw [ZiW]) (by simp only [List.length_cons, List.length_nil, Nat.reduceAdd, Nat.reduceSub, List.replicate_succ, List.replicate_zero, List.cons_append, List.nil_append]; exact rfl) ?_
  refine ARun.seq (ARun.region ?_)
  refine y_op rfl (Zaa rfl) ?_
  refine AOps.nil (ARun.seq (ARun.region ?_))
  refine y_op rfl (Zaa rfl) ?_
  refine AOps.nil (ARun.seq (ARun.seq (ARun.region ?_)))
  refine y_op rfl (Zaa rfl) ?_
  refine AOps.nil (ARun.block ?_)
  refine ARun.nil0 5 rfl ?_
  rw [← numD_zero, show numD 0 = numD (nmV b 0 ((sby s).take 0)) from rfl]
  refine ARun.loopI (S := Nat) (fun i : Nat => [(7, .any), (8, .any), (9, .any), (10, .any), (11, .any), (12, .any), (13, .any), (14, .any), (15, .any), (16, .any), (17, .any), (18, .any), (19, .any), (20, .any), (21, .any), (22, .any), (23, .any), (24, .any), (25, .any), (26, .any), (27, .any), (28, .any), (29, .any), (5, numD (nmV b 0 ((sby s).take i))), (6, .int .i64 (i : Int))]) (fun i : Nat => []) (fun i : Nat => i ≤ s.size) (fun i : Nat => s.size - i) (0) ?_ ?_ ?_ ?_
  · exact Nat.zero_le _
  · (repeat' first | exact envLe_nil | apply envLe_any | apply envLe_same)
  · rfl
  rintro i hinv ih
  have hln := nmV_ln (b := b) (by omega) hb ((sby s).take i)
  rw [List.length_take] at hln
  refine ARun.seq (ARun.seq (ARun.region ?_))
  refine y_op rfl (q_move rfl) ?_
  refine y_op rfl (q_move rfl) ?_
  refine y_op rfl (ZaB rfl rfl) ?_
  refine y_op rfl (q_int rfl rfl rfl) ?_
  refine AOps.nil ?_
  refine ARun.ite rfl (fun h => ?_) (fun h => ?_)
  · skip
    have hi : i < s.size := by omega
    have hc := sby_lt (s := s) i
    have hsn : nmV b 0 ((sby s).take (i + 1)) = if digV ((sby s).getD i 0) < b then nmV b 0 ((sby s).take i) * b + digV ((sby s).getD i 0) else nmV b 0 ((sby s).take i) := by
      rw [take_getD (by omega), nmV_snoc]
    have hdv := digV_lt ((sby s).getD i 0)
    refine ARun.skip (ARun.seq (ARun.block (ARun.seq (ARun.region ?_))))
    refine y_op rfl (q_move rfl) ?_
    refine y_op rfl (q_move rfl) ?_
    refine y_op rfl (Zaw rfl rfl rfl (by omega) (by omega) (sby_get _)) ?_
    refine y_op rfl (q_move rfl) ?_
    refine y_op rfl (q_call rfl rfl (Zfp ((sby s).getD i 0) hc b hb)) ?_
    refine AOps.nil ?_
    refine ARun.cond rfl (fun g => ?_) (fun g => ?_)
    · skip
      have g : digV ((sby s).getD i 0) < b := of_decide_eq_true g
      rw [if_pos g] at hsn
      refine ARun.drawnP 12 (fun _ => False) mixC rfl rfl (by kernel_rfl) (fun _ _ h => h.elim) ?_
      refine .op rfl (q_move rfl) ?_
      refine .op rfl (q_move rfl) ?_
      refine .op rfl (q_conv rfl rfl rfl (show _ = (b : Int) by rw [IntKind.wrap_u32]; omega)) ?_
      refine .op rfl (OpQ.cast (ZaE rfl rfl rfl rfl rfl rfl rfl rfl rfl rfl rfl (by decide) (by decide) rfl) (numD_dig1 (b := b) (by omega) (by rw [B_eq]; omega))) ?_
      refine .op rfl (q_call rfl rfl (ZnH (nmV b 0 ((sby s).take i)) b (by omega) (by rw [lim_dig1 (by omega) (by rw [B_eq]; omega)]; show 1 ≤ _; decide))) ?_
      refine .op rfl (q_move rfl) ?_
      refine .op rfl (q_move rfl) ?_
      refine .op rfl (Zaw rfl rfl rfl (by omega) (by omega) (sby_get _)) ?_
      refine .op rfl (q_call rfl rfl (Ze2 ((sby s).getD i 0) hc)) ?_
      refine .op rfl (q_conv rfl rfl rfl (show _ = ((digV ((sby s).getD i 0) : Nat) : Int) by rw [if_neg (by omega), IntKind.wrap_u64]; omega)) ?_
      refine .op rfl (q_call rfl rfl (Zjc (digV ((sby s).getD i 0)) (by omega))) ?_
      refine .op rfl (q_call rfl rfl (ZlB (nmV b 0 ((sby s).take i) * b) (digV ((sby s).getD i 0)) (by have := ln_mul (nmV b 0 ((sby s).take i)) b; rw [lim_dig1 (b := b) (by omega) (by rw [B_eq]; omega)] at this; have h1 : [b].length = 1 := rfl; omega) (by have := ln_mono (show digV ((sby s).getD i 0) ≤ 36 by omega); rw [lim_dig1 (b := 36) (by decide) (by decide)] at this; have h1 : [36].length = 1 := rfl; omega))) ?_
      refine .nil (fun hG => ?_)
      refine y_op rfl (Zaa rfl) ?_
      refine AOps.nil (ARun.inBlock (ARun.region ?_))
      refine y_op rfl (q_move rfl) ?_
      refine y_op rfl (q_add rfl rfl (nadd1_i64 (by omega))) ?_
      refine y_op rfl (Zaa rfl) ?_
      refine AOps.nil ?_
      rw [← hsn]
      refine ARun.again (ih (i + 1) ?_ ?_) ?_ ?_
      · exact hi
      · omega
      · (repeat' first | exact envLe_nil | apply envLe_any | apply envLe_same)
      · rfl
    · skip
      have g : ¬ digV ((sby s).getD i 0) < b := of_decide_eq_false g
      rw [if_neg g] at hsn
      refine ARun.skip (ARun.inBlock (ARun.region ?_))
      refine y_op rfl (q_move rfl) ?_
      refine y_op rfl (q_add rfl rfl (nadd1_i64 (by omega))) ?_
      refine y_op rfl (Zaa rfl) ?_
      refine AOps.nil ?_
      rw [← hsn]
      refine ARun.again (ih (i + 1) ?_ ?_) ?_ ?_
      · exact hi
      · omega
      · (repeat' first | exact envLe_nil | apply envLe_any | apply envLe_same)
      · rfl
  · skip
    have hi : i = s.size := by omega
    rw [hi, ← hL, List.take_length]
    refine ARun.exit rfl ?_
    refine ARun.seq (ARun.region ?_)
    refine y_op rfl (q_move rfl) ?_
    refine y_op rfl (Zaa rfl) ?_
    refine AOps.nil ?_
    refine ARun.ret ?_
    refine ⟨_, _, _, .tmp rfl .nil, .cons (.same _) .nil, rfl, ?_⟩
    rfl
end Go.V
/- strings.IndexByte: the library's contract, laid at this seat's numbers. -/
set_option maxRecDepth 100000
set_option maxHeartbeats 1000000
namespace Go.V
open Go.Shelf Go.RowKit Go.Proofs
def bRen217 : Ren := ⟨fun | 217 => 232 | 266 => 247 | n => n, fun | 3 => 3 | 5 => 5 | 9 => 9 | n => n, fun n => n⟩
theorem bLay217 : Lays.n217 Tryz.prog bRen217 := {
  mixed := by kernel_rfl
  f217 := Tryz.func232.trans (congrArg some (by kernel_rfl))
  f266 := Tryz.func247.trans (congrArg some (by kernel_rfl))
  t3 := Tryz.underlying3
  a3 := Tryz.isAgg3
  z3 := Tryz.sizeOf3
  v3 := Tryz.zeroValue3
  t5 := Tryz.underlying5
  a5 := Tryz.isAgg5
  z5 := Tryz.sizeOf5
  v5 := Tryz.zeroValue5
  t9 := Tryz.underlying9
  a9 := Tryz.isAgg9
  z9 := Tryz.sizeOf9
  v9 := Tryz.zeroValue9 }
theorem below_same (w : World) : Below w.heap.size w w := by
  refine ⟨?_, ?_, ?_, ?_, ?_⟩
  all_goals first | rfl | exact Nat.le_refl _ | (intros; rfl) | (intros; assumption)
theorem Zg9 (s : ByteArray) (c : Int) : PC C Zcq [.str s, .int .u8 c] (fun o => o = .ret (.int .i64 (Lib.indexByte s.data.toList c.toNat.toUInt8))) := by
  refine PC.of_below (v := .int .i64 (Lib.indexByte s.data.toList c.toNat.toUInt8)) Zcd (fun _ _ _ _ => by simp only [VR]) (fun w L μ H vs ha => ?_)
  simp only [VRs, VR] at ha
  obtain ⟨_, _, rfl, rfl, _, _, rfl, rfl, rfl⟩ := ha
  exact (Any.stringslite_IndexByte bLay217 s c w).mono fun e w' ⟨h1, h2⟩ => ⟨h1, by rw [h2]; exact below_same w⟩
end Go.V
set_option maxHeartbeats 4000000
set_option maxRecDepth 100000
set_option synthInstance.maxSize 100000
set_option synthInstance.maxHeartbeats 2000000
namespace Go.V
open Go.RowKit Go.Proofs
theorem ixB_nn : ∀ (l : List UInt8) (c : UInt8), Lib.indexByte l c ≥ 0 ↔ c ∈ l
  | [], c => by simp [Lib.indexByte]
  | b :: l, c => by
    have ih := ixB_nn l c
    unfold Lib.indexByte
    by_cases h : b = c
    · subst h; simp
    · have h1 : (b == c) = false := beq_eq_false_iff_ne.2 h
      rw [h1]
      simp only [Bool.false_eq_true, if_false, List.mem_cons]
      have hne : ¬ c = b := fun e => h e.symm
      simp only [hne, false_or]
      by_cases h2 : (Lib.indexByte l c == -1) = true
      · rw [if_pos h2]
        have := eq_of_beq h2
        rw [← ih]; omega
      · rw [if_neg h2]
        have h3 : ¬ Lib.indexByte l c = -1 := fun e => h2 (by rw [e]; rfl)
        rw [← ih]
        have h4 : -1 ≤ Lib.indexByte l c := by
          clear ih h2 h3
          induction l with
          | nil => unfold Lib.indexByte; omega
          | cons d l ih => unfold Lib.indexByte; split; omega; split; omega; omega
        omega
theorem ZkG (s : ByteArray) (c : Int) : PC C ZdS [.str s, .int .u8 c] (fun o => o = .ret (.int .i64 (Lib.indexByte s.data.toList c.toNat.toUInt8))) := by
  refine PC.run ZbF Zdo rfl Zdp rfl (rs := [.tmp 4]) (by rw [Zdq]) (by simp only [List.length_cons, List.length_nil, Nat.reduceAdd, Nat.reduceSub, List.replicate_succ, List.replicate_zero, List.cons_append, List.nil_append]; exact rfl) ?_
  refine ARun.seq (ARun.region ?_)
  refine y_op rfl (Zaa rfl) ?_
  refine AOps.nil (ARun.seq (ARun.region ?_))
  refine y_op rfl (q_move rfl) ?_
  refine y_op rfl (q_move rfl) ?_
  refine y_op rfl (q_call rfl rfl (Zg9 s c)) ?_
  refine y_op rfl (Zaa rfl) ?_
  refine AOps.nil ?_
  refine ARun.ret ?_
  refine ⟨_, _, _, .tmp rfl .nil, .cons (.same _) .nil, rfl, ?_⟩
  rfl
abbrev rdO (s : ByteArray) (i : Int) : Option AObj := some ⟨[.str s, .int .i64 i], Zhb, 1, true, none⟩
def isAt (s : ByteArray) (i : Nat) (some' : ByteArray) : Bool := decide (i < s.size) && decide (UInt8.ofNat ((sby s).getD i 0) ∈ some'.data.toList)
theorem Zlu (H : Heap) (k : Nat) (s : ByteArray) (i : Int) (hk : H[k]? = some (rdO s i)) : HC C ZdT H [.ptr k 0] (fun x H' => x = .pan (wrongW i) ∧ H' = H) := by
  refine HC.run ZbG Zdr rfl Zds (rs := []) (by rw [Zdt]) (by simp only [List.length_cons, List.length_nil, Nat.reduceAdd, Nat.reduceSub, List.replicate_succ, List.replicate_zero, List.cons_append, List.nil_append]; exact rfl) ?_
  refine ARun.region ?_
  refine y_op rfl (q_move rfl) ?_
  refine y_op rfl (q_nil rfl rfl) ?_
  refine y_op rfl (q_fldP rfl rfl rfl (by decide)) ?_
  refine y_op rfl (Zaf rfl rfl rfl hk rfl) ?_
  refine y_op rfl (Zap rfl rfl rfl rfl rfl) ?_
  refine y_op rfl (Zg4 rfl rfl rfl) ?_
  exact Zlh rfl rfl ⟨_, _, .same _, rfl, rfl⟩
theorem hc_end (H : Heap) (k : Nat) (s : ByteArray) (i : Nat) (hk : H[k]? = some (rdO s i)) : HC C Zeh H [.ptr k 0] (fun x H' => H' = H ∧ ((s.size ≤ i ∧ x = .ret (.tup [])) ∨ (i < s.size ∧ x = .pan (wrongW i)))) := by
  refine HC.run ZbP ZdO rfl ZdP (rs := []) (by rw [ZdQ]) (by simp only [List.length_cons, List.length_nil, Nat.reduceAdd, Nat.reduceSub, List.replicate_succ, List.replicate_zero, List.cons_append, List.nil_append]; exact rfl) ?_
  refine ARun.seq ?_
  refine ARun.drawnP 10 (fun _ => False) mixC rfl rfl (by kernel_rfl) (fun _ _ h => h.elim) ?_
  refine .op rfl (q_move rfl) ?_
  refine .op rfl (q_nil rfl rfl) ?_
  refine .op rfl (q_fldP rfl rfl rfl (by decide)) ?_
  refine .op rfl (Zaf rfl rfl rfl hk rfl) ?_
  refine .op rfl (q_move rfl) ?_
  refine .op rfl (q_nil rfl rfl) ?_
  refine .op rfl (q_fldP rfl rfl rfl (by decide)) ?_
  refine .op rfl (Zaf rfl rfl rfl hk rfl) ?_
  refine .op rfl (ZaB rfl rfl) ?_
  refine .op rfl (q_int rfl rfl rfl) ?_
  refine .nil (fun hG => ?_)
  refine AOps.nil ?_
  refine ARun.ite rfl (fun h => ?_) (fun h => ?_)
  · skip
    refine ARun.region ?_
    refine y_op rfl (q_move rfl) ?_
    refine ZaY rfl rfl rfl rfl (Zlu H k s i hk) (by rintro _ _ ⟨h, _⟩; cases h) (fun q H' hq => by obtain ⟨hq, rfl⟩ := hq; injection hq with hq; subst hq; exact ⟨_, _, .same _, rfl, .inr ⟨by omega, rfl⟩⟩)
  · skip
    refine ARun.skip ?_
    refine ARun.nil ?_
    exact ⟨_, _, _, .nil, .nil, rfl, .inl ⟨by omega, rfl⟩⟩
theorem Znj (H : Heap) (k : Nat) (s some' : ByteArray) (i : Nat) (hk : H[k]? = some (rdO s i)) (hi : s.size ≤ 20000) (g : i < s.size) : HC C Za0 H [.ptr k 0, .str some'] (fun x H' => x = .ret (.bool (isAt s i some')) ∧ H' = (bif isAt s i some' then H.set k (rdO s ((i + 1 : Nat) : Int)) else H)) := by
  have hm := ixB_nn some'.data.toList (UInt8.ofNat ((sby s).getD i 0))
  refine HC.run ZaS ZbC rfl ZbD (rs := [.tmp 4]) (by rw [ZbE]) (by simp only [List.length_cons, List.length_nil, Nat.reduceAdd, Nat.reduceSub, List.replicate_succ, List.replicate_zero, List.cons_append, List.nil_append]; exact rfl) ?_
  refine ARun.seq (ARun.region ?_)
  refine y_op rfl (Zaa rfl) ?_
  refine AOps.nil (ARun.seq (ARun.seq ?_))
  refine ARun.drawnP 24 (fun _ => False) mixC rfl rfl (by kernel_rfl) (fun _ _ h => h.elim) ?_
  refine .op rfl (q_move rfl) ?_
  refine .op rfl (q_nil rfl rfl) ?_
  refine .op rfl (q_fldP rfl rfl rfl (by decide)) ?_
  refine .op rfl (Zaf rfl rfl rfl hk rfl) ?_
  refine .op rfl (q_move rfl) ?_
  refine .op rfl (q_nil rfl rfl) ?_
  refine .op rfl (q_fldP rfl rfl rfl (by decide)) ?_
  refine .op rfl (Zaf rfl rfl rfl hk rfl) ?_
  refine .op rfl (ZaB rfl rfl) ?_
  refine .op rfl (OpQ.cast (d' := .bool true) (q_int rfl rfl rfl) (by rw [decide_eq_true (by omega)])) ?_
  refine .op rfl (q_move rfl) ?_
  refine .op rfl (q_move rfl) ?_
  refine .op rfl (q_move rfl) ?_
  refine .op rfl (q_nil rfl rfl) ?_
  refine .op rfl (q_fldP rfl rfl rfl (by decide)) ?_
  refine .op rfl (Zaf rfl rfl rfl hk rfl) ?_
  refine .op rfl (q_move rfl) ?_
  refine .op rfl (q_nil rfl rfl) ?_
  refine .op rfl (q_fldP rfl rfl rfl (by decide)) ?_
  refine .op rfl (Zaf rfl rfl rfl hk rfl) ?_
  refine .op rfl (Zaw rfl rfl rfl (by omega) (by omega) (sby_get _)) ?_
  refine .op rfl (q_call rfl rfl (ZkG some' (((sby s).getD i 0 : Nat) : Int))) ?_
  refine .op rfl (q_int rfl rfl rfl) ?_
  refine .op rfl (q_pick rfl rfl rfl rfl) ?_
  refine .nil (fun hG => ?_)
  refine AOps.nil ?_
  refine ARun.ite rfl (fun h => ?_) (fun h => ?_)
  · skip
    have e : isAt s i some' = true := by
      unfold isAt
      rw [decide_eq_true g, decide_eq_true (hm.1 h)]; rfl
    rw [e]
    refine ARun.seq (ARun.region ?_)
    refine y_op rfl (q_move rfl) ?_
    refine y_op rfl (q_nil rfl rfl) ?_
    refine y_op rfl (q_fldP rfl rfl rfl (by decide)) ?_
    refine y_op rfl (Zaf rfl rfl rfl hk rfl) ?_
    refine y_op rfl (q_add rfl rfl (nadd1_i64 (by omega))) ?_
    refine y_op rfl (q_nil rfl rfl) ?_
    refine y_op rfl (q_fldP rfl rfl rfl (by decide)) ?_
    refine y_new rfl (Zag rfl rfl rfl rfl hk rfl (Nat.le_of_ble_eq_true rfl) rfl) ?_
    refine AOps.nil (ARun.seq (ARun.region ?_))
    refine y_op rfl (Zaa rfl) ?_
    refine AOps.nil ?_
    refine ARun.ret ?_
    exact ⟨_, _, _, .tmp rfl .nil, .cons (.same _) .nil, rfl, rfl⟩
  · skip
    have e : isAt s i some' = false := by
      unfold isAt
      rw [decide_eq_true g, decide_eq_false (fun x => h (hm.2 x))]; rfl
    rw [e]
    refine ARun.skip (ARun.seq (ARun.region ?_))
    refine y_op rfl (Zaa rfl) ?_
    refine AOps.nil ?_
    refine ARun.ret ?_
    exact ⟨_, _, _, .tmp rfl .nil, .cons (.same _) .nil, rfl, rfl⟩
theorem Znk (H : Heap) (k : Nat) (s some' : ByteArray) (i : Nat) (hk : H[k]? = some (rdO s i)) (g : ¬ i < s.size) : HC C Za0 H [.ptr k 0, .str some'] (fun x H' => x = .ret (.bool (isAt s i some')) ∧ H' = (bif isAt s i some' then H.set k (rdO s ((i + 1 : Nat) : Int)) else H)) := by
  have e : isAt s i some' = false := by
    unfold isAt
    rw [decide_eq_false g]; rfl
  rw [e]
  refine HC.run ZaS ZbC rfl ZbD (rs := [.tmp 4]) (by rw [ZbE]) (by simp only [List.length_cons, List.length_nil, Nat.reduceAdd, Nat.reduceSub, List.replicate_succ, List.replicate_zero, List.cons_append, List.nil_append]; exact rfl) ?_
  refine ARun.seq (ARun.region ?_)
  refine y_op rfl (Zaa rfl) ?_
  refine AOps.nil (ARun.seq (ARun.seq ?_))
  refine ARun.drawnP 24 (fun _ => False) mixC rfl rfl (by kernel_rfl) (fun _ _ h => h.elim) ?_
  refine .op rfl (q_move rfl) ?_
  refine .op rfl (q_nil rfl rfl) ?_
  refine .op rfl (q_fldP rfl rfl rfl (by decide)) ?_
  refine .op rfl (Zaf rfl rfl rfl hk rfl) ?_
  refine .op rfl (q_move rfl) ?_
  refine .op rfl (q_nil rfl rfl) ?_
  refine .op rfl (q_fldP rfl rfl rfl (by decide)) ?_
  refine .op rfl (Zaf rfl rfl rfl hk rfl) ?_
  refine .op rfl (ZaB rfl rfl) ?_
  refine .op rfl (OpQ.cast (d' := .bool false) (q_int rfl rfl rfl) (by rw [decide_eq_false (by omega)])) ?_
  refine .op rfl (q_move rfl) ?_
  refine .skip rfl ?_
  refine .skip rfl ?_
  refine .skip rfl ?_
  refine .skip rfl ?_
  refine .skip rfl ?_
  refine .skip rfl ?_
  refine .skip rfl ?_
  refine .skip rfl ?_
  refine .skip rfl ?_
  refine .skip rfl ?_
  refine .skip rfl ?_
  refine .skip rfl ?_
  refine .op rfl (q_pick rfl rfl rfl rfl) ?_
  refine .nil (fun hG => ?_)
  refine AOps.nil ?_
  refine ARun.condF rfl ?_
  refine ARun.skip (ARun.seq (ARun.region ?_))
  refine y_op rfl (Zaa rfl) ?_
  refine AOps.nil ?_
  refine ARun.ret ?_
  exact ⟨_, _, _, .tmp rfl .nil, .cons (.same _) .nil, rfl, rfl⟩
theorem Znl (H : Heap) (k : Nat) (s some' : ByteArray) (i : Nat) (hk : H[k]? = some (rdO s i)) (hi : s.size ≤ 20000) : HC C Za0 H [.ptr k 0, .str some'] (fun x H' => x = .ret (.bool (isAt s i some')) ∧ H' = (bif isAt s i some' then H.set k (rdO s ((i + 1 : Nat) : Int)) else H)) :=
  (Decidable.em (i < s.size)).elim (Znj H k s some' i hk hi) (Znk H k s some' i hk)
end Go.V
set_option maxHeartbeats 4000000
set_option maxRecDepth 100000
set_option synthInstance.maxSize 100000
set_option synthInstance.maxHeartbeats 2000000
namespace Go.V
open Go.RowKit Go.Proofs
def dgAt (b : Nat) (s : ByteArray) (i : Nat) : List Nat := (((sby s).drop i).takeWhile (fun c => decide (digV c < b))).map digV
theorem dgAt_lt {b : Nat} {s : ByteArray} {i : Nat} (m : Nat) (h : m < (dgAt b s i).length) : i + m < s.size ∧ (dgAt b s i).getD m 0 = digV ((sby s).getD (i + m) 0) ∧ digV ((sby s).getD (i + m) 0) < b := by
  have key : ∀ (l : List Nat) (m : Nat), m < (l.takeWhile (fun c => decide (digV c < b))).length → m < l.length ∧ (l.takeWhile (fun c => decide (digV c < b))).getD m 0 = l.getD m 0 ∧ digV (l.getD m 0) < b := by
    intro l
    induction l with
    | nil => intro m h; cases h
    | cons c l ih =>
      intro m h
      rw [List.takeWhile_cons] at h ⊢
      by_cases hc : digV c < b
      · rw [if_pos (decide_eq_true hc)] at h ⊢
        cases m with
        | zero => exact ⟨by simp, rfl, hc⟩
        | succ m =>
          have := ih m (by simpa using h)
          exact ⟨by rw [List.length_cons]; omega, this.2.1, this.2.2⟩
      · rw [if_neg (by simpa using hc)] at h; cases h
  have hl := sby_len s
  unfold dgAt at h ⊢
  rw [List.length_map] at h
  obtain ⟨k1, k2, k3⟩ := key _ m h
  rw [List.length_drop] at k1
  have k4 : ((sby s).drop i).getD m 0 = (sby s).getD (i + m) 0 := by
    rw [List.getD_eq_getElem?_getD, List.getElem?_drop, ← List.getD_eq_getElem?_getD]
  rw [k4] at k2 k3
  refine ⟨by omega, ?_, k3⟩
  rw [List.getD_eq_getElem?_getD, List.getElem?_map, List.getElem?_eq_getElem h]
  rw [List.getD_eq_getElem?_getD, List.getElem?_eq_getElem h] at k2
  show digV _ = _
  rw [show (List.takeWhile (fun c => decide (digV c < b)) (List.drop i (sby s)))[m] = (sby s).getD (i + m) 0 from k2]
theorem dgAt_end {b : Nat} {s : ByteArray} {i : Nat} (h : i + (dgAt b s i).length < s.size) : ¬ digV ((sby s).getD (i + (dgAt b s i).length) 0) < b := by
  have key : ∀ (l : List Nat), (l.takeWhile (fun c => decide (digV c < b))).length < l.length → ¬ digV (l.getD (l.takeWhile (fun c => decide (digV c < b))).length 0) < b := by
    intro l
    induction l with
    | nil => intro h; cases h
    | cons c l ih =>
      intro h
      rw [List.takeWhile_cons] at h ⊢
      by_cases hc : digV c < b
      · rw [if_pos (decide_eq_true hc)] at h ⊢
        exact ih (by simpa using h)
      · rw [if_neg (by simpa using hc)]; exact hc
  have hl := sby_len s
  unfold dgAt at h ⊢
  rw [List.length_map] at h ⊢
  have := key ((sby s).drop i) (by rw [List.length_drop]; omega)
  rw [List.getD_eq_getElem?_getD, List.getElem?_drop, ← List.getD_eq_getElem?_getD] at this
  exact this
theorem dgAt_le (b : Nat) (s : ByteArray) (i : Nat) : (dgAt b s i).length ≤ s.size := by
  have hl := sby_len s
  have h1 := (List.takeWhile_prefix (l := (sby s).drop i) (fun c => decide (digV c < b))).length_le
  rw [List.length_drop] at h1
  unfold dgAt
  rw [List.length_map]
  omega
theorem set_same {H : Heap} {k : Nat} {v : Option AObj} (h : H[k]? = some v) : H.set k v = H := by
  have kl := (List.getElem?_eq_some_iff.1 h).1
  apply List.ext_getElem?
  intro j
  by_cases e : k = j
  · subst e; rw [List.getElem?_set_self kl, h]
  · rw [List.getElem?_set_ne e]
theorem rd_get {H J : Heap} {k : Nat} {s : ByteArray} {i j : Int} (hk : H[k]? = some (rdO s i)) : (H.set k (rdO s j) ++ J)[k]? = some (rdO s j) := by
  have kl := (List.getElem?_eq_some_iff.1 hk).1
  rw [List.getElem?_append_left (by rw [List.length_set]; exact kl), List.getElem?_set_self kl]
theorem rd_set {H J : Heap} {k : Nat} {s : ByteArray} {i j j' : Int} (hk : H[k]? = some (rdO s i)) : (H.set k (rdO s j) ++ J).set k (rdO s j') = H.set k (rdO s j') ++ J := by
  have kl := (List.getElem?_eq_some_iff.1 hk).1
  rw [List.set_append_left _ _ (by rw [List.length_set]; exact kl), List.set_set]
theorem Ze3 (H : Heap) (k : Nat) (s : ByteArray) (i0 b : Nat) (hs : s.size ≤ 20000) (hb : b ≤ 36) (hk : H[k]? = some (rdO s i0)) : HC C Zc6 H [.ptr k 0, .int .i64 (b : Int), .bool false, .int .i64 0]
    (fun x H' => ((dgAt b s i0).length = 0 ∧ x = .pan (wrongW i0) ∧ ∃ J, H' = H.set k (rdO s i0) ++ J) ∨ (0 < (dgAt b s i0).length ∧ x = .ret (sln .i64 (dgAt b s i0)) ∧ ∃ J, H' = H.set k (rdO s ((i0 + (dgAt b s i0).length : Nat) : Int)) ++ J)) := by
  have kl := (List.getElem?_eq_some_iff.1 hk).1
  have hle := dgAt_le b s i0
  generalize hN : (dgAt b s i0).length = N
  refine HC.run Zbl ZcO rfl ZcP (rs := [.tmp 8]) (by rw [ZcQ]) (by simp only [List.length_cons, List.length_nil, Nat.reduceAdd, Nat.reduceSub, List.replicate_succ, List.replicate_zero, List.cons_append, List.nil_append]; exact rfl) ?_
  refine ARun.seq (ARun.region ?_)
  refine y_op rfl (Zaa rfl) ?_
  refine AOps.nil (ARun.seq (ARun.region ?_))
  refine y_op rfl (Zaa rfl) ?_
  refine AOps.nil (ARun.block ?_)
  refine ARun.hp (H' := H.set k (rdO s ((i0 + 0 : Nat) : Int)) ++ growT [] t_int (nts .i64 ((dgAt b s i0).take 0))) (by show H = H.set k _ ++ []; rw [List.append_nil, Nat.add_zero]; exact (set_same hk).symm) ?_
  refine ARun.loopI (S := Nat × Heap) (fun σ : Nat × Heap => [(8, .any), (10, .any), (11, .any), (12, .any), (13, .any), (14, .any), (15, .any), (16, .any), (17, .any), (18, .any), (19, .any), (20, .any), (21, .any), (22, .any), (23, .any), (24, .any), (25, .any), (26, .any), (27, .any), (28, .any), (29, .any), (30, .any), (31, .any), (32, .any), (33, .any), (34, .any), (35, .any), (36, .any), (37, .any), (38, .any), (39, .any), (40, .any), (41, .any), (42, .any), (43, .any), (44, .any), (45, .any), (46, .any), (47, .any), (48, .any), (49, .any), (50, .any), (51, .any), (52, .any), (53, .any), (54, .any), (55, .any), (56, .any), (57, .any), (58, .any), (59, .any), (60, .any), (61, .any), (62, .any), (63, .any), (64, .any), (65, .any), (66, .any), (67, .any), (68, .any), (69, .any), (70, .any), (71, .any), (72, .any), (73, .any), (74, .any), (75, .any), (76, .any), (77, .any), (78, .any), (79, .any), (80, .any), (81, .any), (82, .any), (83, .any), (84, .any), (85, .any), (86, .any), (9, growD (H.length + σ.2.length) (nts .i64 ((dgAt b s i0).take σ.1)))]) (fun σ : Nat × Heap => H.set k (rdO s ((i0 + σ.1 : Nat) : Int)) ++ growT σ.2 t_int (nts .i64 ((dgAt b s i0).take σ.1))) (fun σ : Nat × Heap => σ.1 ≤ N) (fun σ : Nat × Heap => N - σ.1) ((0, [])) ?_ ?_ ?_ ?_
  · exact Nat.zero_le _
  · (repeat' first | exact envLe_nil | apply envLe_any | apply envLe_same)
  · rfl
  rintro ⟨m, J⟩ hinv ih
  dsimp only at hinv ih ⊢
  refine ARun.block (ARun.seq (ARun.region ?_))
  refine y_op rfl (q_move rfl) ?_
  refine y_op rfl (q_nil rfl rfl) ?_
  refine y_op rfl (q_fldP rfl rfl rfl (by decide)) ?_
  refine y_op rfl (Zaf rfl rfl rfl (rd_get hk) rfl) ?_
  refine y_op rfl (Zaa rfl) ?_
  refine AOps.nil (ARun.seq (ARun.region ?_))
  refine y_op rfl (q_move rfl) ?_
  refine y_op rfl (q_move rfl) ?_
  refine y_skip rfl ?_
  refine y_skip rfl ?_
  refine y_skip rfl ?_
  refine y_skip rfl ?_
  refine y_skip rfl ?_
  refine y_op rfl (q_pick rfl rfl rfl rfl) ?_
  refine y_op rfl (q_move rfl) ?_
  refine y_skip rfl ?_
  refine y_skip rfl ?_
  refine y_op rfl (q_pick rfl rfl rfl rfl) ?_
  refine y_op rfl (Zaa rfl) ?_
  refine AOps.nil (ARun.seq (ARun.seq ?_))
  rcases Nat.lt_or_ge (i0 + m) s.size with g | g
  · skip
    refine ARun.drawnP 24 (fun _ => False) mixC rfl rfl (by kernel_rfl) (fun _ _ h => h.elim) ?_
    refine .op rfl (q_move rfl) ?_
    refine .op rfl (q_nil rfl rfl) ?_
    refine .op rfl (q_fldP rfl rfl rfl (by decide)) ?_
    refine .op rfl (Zaf rfl rfl rfl (rd_get hk) rfl) ?_
    refine .op rfl (q_move rfl) ?_
    refine .op rfl (q_nil rfl rfl) ?_
    refine .op rfl (q_fldP rfl rfl rfl (by decide)) ?_
    refine .op rfl (Zaf rfl rfl rfl (rd_get hk) rfl) ?_
    refine .op rfl (ZaB rfl rfl) ?_
    refine .op rfl (OpQ.cast (d' := .bool true) (q_int rfl rfl rfl) (by rw [decide_eq_true (by omega)])) ?_
    refine .op rfl (q_move rfl) ?_
    refine .op rfl (q_move rfl) ?_
    refine .op rfl (q_nil rfl rfl) ?_
    refine .op rfl (q_fldP rfl rfl rfl (by decide)) ?_
    refine .op rfl (Zaf rfl rfl rfl (rd_get hk) rfl) ?_
    refine .op rfl (q_move rfl) ?_
    refine .op rfl (q_nil rfl rfl) ?_
    refine .op rfl (q_fldP rfl rfl rfl (by decide)) ?_
    refine .op rfl (Zaf rfl rfl rfl (rd_get hk) rfl) ?_
    refine .op rfl (Zaw rfl rfl rfl (by omega) (by omega) (sby_get _)) ?_
    refine .op rfl (q_call rfl rfl (Zio ((sby s).getD (i0 + m) 0) (sby_lt _))) ?_
    refine .op rfl (q_move rfl) ?_
    refine .op rfl (q_int rfl rfl rfl) ?_
    refine .op rfl (q_pick rfl rfl rfl rfl) ?_
    refine .nil (fun hG => ?_)
    refine AOps.nil ?_
    refine ARun.ite rfl (fun h => ?_) (fun h => ?_)
    · skip
      have hmN : m < N := by
        rcases Nat.lt_or_ge m N with h1 | h1
        · exact h1
        · exfalso
          obtain rfl : m = N := by omega
          subst hN
          exact dgAt_end g (by omega)
      have hd := (dgAt_lt (b := b) (s := s) (i := i0) m (by omega)).2.1
      have hdg : PC C Zen [.int .u8 (((sby s).getD (i0 + m) 0 : Nat) : Int)] (fun o => o = .ret (.int .i64 (((dgAt b s i0).getD m 0 : Nat) : Int))) := (Zio ((sby s).getD (i0 + m) 0) (sby_lt _)).mono fun o ho => by rw [ho, hd]
      have hnl : (nts .i64 ((dgAt b s i0).take m)).length = m := by rw [nts_length, List.length_take]; omega
      refine ARun.seq ?_
      refine ARun.drawnP 12 (fun _ => False) mixC rfl rfl (by kernel_rfl) (fun _ _ h => h.elim) ?_
      refine .op rfl (q_move rfl) ?_
      refine .op rfl (q_move rfl) ?_
      refine .op rfl (q_nil rfl rfl) ?_
      refine .op rfl (q_fldP rfl rfl rfl (by decide)) ?_
      refine .op rfl (Zaf rfl rfl rfl (rd_get hk) rfl) ?_
      refine .op rfl (q_move rfl) ?_
      refine .op rfl (q_nil rfl rfl) ?_
      refine .op rfl (q_fldP rfl rfl rfl (by decide)) ?_
      refine .op rfl (Zaf rfl rfl rfl (rd_get hk) rfl) ?_
      refine .op rfl (Zaw rfl rfl rfl (by omega) (by omega) (sby_get _)) ?_
      refine .op rfl (q_call rfl rfl (hdg)) ?_
      refine .op rfl (ZaE rfl rfl rfl rfl rfl rfl rfl rfl rfl rfl rfl (by decide) (by decide) rfl) ?_
      refine .nil (fun hG => ?_)
      refine Zna (dx := .int .i64 (((dgAt b s i0).getD m 0 : Nat) : Int)) rfl rfl rfl rfl rfl rfl rfl (by rw [List.length_set]; rfl) rfl (by show (_ + 1) * 8 ≤ _; omega) (by omega) (fun J' => ?_)
      rw [nts_snoc, ← take_getD (by omega)]
      refine y_op rfl (Zaa rfl) ?_
      refine AOps.nil (ARun.seq (ARun.region ?_))
      refine y_op rfl (q_move rfl) ?_
      refine y_op rfl (q_nil rfl rfl) ?_
      refine y_op rfl (q_fldP rfl rfl rfl (by decide)) ?_
      refine y_op rfl (Zaf rfl rfl rfl (rd_get hk) rfl) ?_
      refine y_op rfl (q_add rfl rfl (show _ = ((i0 + (m + 1) : Nat) : Int) by rw [IntWalk.i64_in _ (by omega)]; omega)) ?_
      refine y_op rfl (q_nil rfl rfl) ?_
      refine y_op rfl (q_fldP rfl rfl rfl (by decide)) ?_
      refine y_new rfl (Zag rfl rfl rfl rfl (rd_get hk) rfl (Nat.le_of_ble_eq_true rfl) rfl) (AOps.hp (rd_set hk) ?_)
      refine AOps.nil ?_
      refine ARun.exit rfl ?_
      rw [List.length_set]
      refine ARun.again (ih ((m + 1, J')) ?_ ?_) ?_ ?_
      · exact hmN
      · (dsimp only; omega)
      · (repeat' first | exact envLe_nil | apply envLe_any | apply envLe_same)
      · rfl
    · skip
      have hmN : m = N := by
        apply Classical.byContradiction
        intro hne
        have h3 := dgAt_lt (b := b) (s := s) (i := i0) m (by omega)
        exact h (by have := h3.2.2; omega)
      subst hmN
      rw [← hN, List.take_length]
      refine ARun.growEnd 9 (by rw [List.length_set]; rfl) (pures_nts _) (fun J' => ?_)
      rw [sln_len]
      refine ARun.skip (ARun.seq (ARun.seq (ARun.region ?_)))
      refine y_op rfl (q_move rfl) ?_
      refine y_op rfl (q_move rfl) ?_
      refine y_op rfl (q_move rfl) ?_
      refine y_op rfl (q_move rfl) ?_
      refine y_op rfl (Zac rfl rfl) ?_
      refine y_op rfl (q_add rfl rfl (IntWalk.i64_in _ (by omega))) ?_
      refine y_op rfl (q_int rfl rfl rfl) ?_
      refine y_op rfl (q_pick rfl rfl rfl rfl) ?_
      refine AOps.nil ?_
      refine ARun.cond rfl (fun hz => ?_) (fun hz => ?_)
      · skip
        have hz : (dgAt b s i0).length = 0 := by simpa using hz
        refine ARun.region ?_
        refine y_op rfl (q_move rfl) ?_
        refine ZaY rfl rfl rfl rfl (Zlu _ k s _ (rd_get hk)) (by rintro _ _ ⟨h, _⟩; cases h) (fun q H' hq => by obtain ⟨hq, rfl⟩ := hq; injection hq with hq; subst hq; exact ⟨_, _, .same _, .inl ⟨hz, by rw [hz]; rfl, J', by rw [hz]; rfl⟩⟩)
      · skip
        have hz : ¬ (dgAt b s i0).length = 0 := by simpa using hz
        refine ARun.skip (ARun.seq (ARun.region ?_))
        refine y_op rfl (q_move rfl) ?_
        refine y_op rfl (q_move rfl) ?_
        refine y_op rfl (q_nil rfl rfl) ?_
        refine y_op rfl (q_fldP rfl rfl rfl (by decide)) ?_
        refine y_new rfl (Zag rfl rfl rfl rfl (rd_get hk) rfl (Nat.le_of_ble_eq_true rfl) rfl) (AOps.hp (rd_set hk) ?_)
        refine AOps.nil (ARun.seq (ARun.region ?_))
        refine y_op rfl (q_move rfl) ?_
        refine y_op rfl (Zaa rfl) ?_
        refine AOps.nil ?_
        refine ARun.ret ?_
        exact ⟨_, _, _, .tmp rfl .nil, .cons (.same _) .nil, .inr ⟨by omega, rfl, J', rfl⟩⟩
  · skip
    refine ARun.drawnP 24 (fun _ => False) mixC rfl rfl (by kernel_rfl) (fun _ _ h => h.elim) ?_
    refine .op rfl (q_move rfl) ?_
    refine .op rfl (q_nil rfl rfl) ?_
    refine .op rfl (q_fldP rfl rfl rfl (by decide)) ?_
    refine .op rfl (Zaf rfl rfl rfl (rd_get hk) rfl) ?_
    refine .op rfl (q_move rfl) ?_
    refine .op rfl (q_nil rfl rfl) ?_
    refine .op rfl (q_fldP rfl rfl rfl (by decide)) ?_
    refine .op rfl (Zaf rfl rfl rfl (rd_get hk) rfl) ?_
    refine .op rfl (ZaB rfl rfl) ?_
    refine .op rfl (OpQ.cast (d' := .bool false) (q_int rfl rfl rfl) (by rw [decide_eq_false (by omega)])) ?_
    refine .op rfl (q_move rfl) ?_
    refine .skip rfl ?_
    refine .skip rfl ?_
    refine .skip rfl ?_
    refine .skip rfl ?_
    refine .skip rfl ?_
    refine .skip rfl ?_
    refine .skip rfl ?_
    refine .skip rfl ?_
    refine .skip rfl ?_
    refine .skip rfl ?_
    refine .skip rfl ?_
    refine .skip rfl ?_
    refine .op rfl (q_pick rfl rfl rfl rfl) ?_
    refine .nil (fun hG => ?_)
    refine AOps.nil ?_
    refine ARun.condF rfl ?_
    have hmN : m = N := by
      apply Classical.byContradiction
      intro hne
      have h3 := dgAt_lt (b := b) (s := s) (i := i0) m (by omega)
      omega
    subst hmN
    rw [← hN, List.take_length]
    refine ARun.growEnd 9 (by rw [List.length_set]; rfl) (pures_nts _) (fun J' => ?_)
    rw [sln_len]
    refine ARun.skip (ARun.seq (ARun.seq (ARun.region ?_)))
    refine y_op rfl (q_move rfl) ?_
    refine y_op rfl (q_move rfl) ?_
    refine y_op rfl (q_move rfl) ?_
    refine y_op rfl (q_move rfl) ?_
    refine y_op rfl (Zac rfl rfl) ?_
    refine y_op rfl (q_add rfl rfl (IntWalk.i64_in _ (by omega))) ?_
    refine y_op rfl (q_int rfl rfl rfl) ?_
    refine y_op rfl (q_pick rfl rfl rfl rfl) ?_
    refine AOps.nil ?_
    refine ARun.cond rfl (fun hz => ?_) (fun hz => ?_)
    · skip
      have hz : (dgAt b s i0).length = 0 := by simpa using hz
      refine ARun.region ?_
      refine y_op rfl (q_move rfl) ?_
      refine ZaY rfl rfl rfl rfl (Zlu _ k s _ (rd_get hk)) (by rintro _ _ ⟨h, _⟩; cases h) (fun q H' hq => by obtain ⟨hq, rfl⟩ := hq; injection hq with hq; subst hq; exact ⟨_, _, .same _, .inl ⟨hz, by rw [hz]; rfl, J', by rw [hz]; rfl⟩⟩)
    · skip
      have hz : ¬ (dgAt b s i0).length = 0 := by simpa using hz
      refine ARun.skip (ARun.seq (ARun.region ?_))
      refine y_op rfl (q_move rfl) ?_
      refine y_op rfl (q_move rfl) ?_
      refine y_op rfl (q_nil rfl rfl) ?_
      refine y_op rfl (q_fldP rfl rfl rfl (by decide)) ?_
      refine y_new rfl (Zag rfl rfl rfl rfl (rd_get hk) rfl (Nat.le_of_ble_eq_true rfl) rfl) (AOps.hp (rd_set hk) ?_)
      refine AOps.nil (ARun.seq (ARun.region ?_))
      refine y_op rfl (q_move rfl) ?_
      refine y_op rfl (Zaa rfl) ?_
      refine AOps.nil ?_
      refine ARun.ret ?_
      exact ⟨_, _, _, .tmp rfl .nil, .cons (.same _) .nil, .inr ⟨by omega, rfl, J', rfl⟩⟩
end Go.V
set_option maxHeartbeats 4000000
set_option maxRecDepth 100000
set_option synthInstance.maxSize 100000
set_option synthInstance.maxHeartbeats 2000000
namespace Go.V
open Go.RowKit Go.Proofs
def nv (b : Nat) (l : List Nat) : Nat := l.foldl (fun a d => a * b + d) 0
theorem nv_from (b : Nat) : ∀ (l : List Nat) (a : Nat), l.foldl (fun a d => a * b + d) a = a * b ^ l.length + nv b l
  | [], a => by simp [nv]
  | d :: l, a => by
    unfold nv
    rw [List.foldl_cons, List.foldl_cons, nv_from b l, nv_from b l (0 * b + d), List.length_cons, Nat.pow_succ, Nat.zero_mul, Nat.zero_add, Nat.add_mul, Nat.mul_assoc, Nat.mul_comm b, Nat.add_assoc]
theorem nv_app (b : Nat) (l k : List Nat) : nv b (l ++ k) = nv b l * b ^ k.length + nv b k := by
  show (l ++ k).foldl _ 0 = _
  rw [List.foldl_append, nv_from]; rfl
theorem nv_snoc (b : Nat) (l : List Nat) (d : Nat) : nv b (l ++ [d]) = nv b l * b + d := by
  unfold nv; rw [List.foldl_append]; rfl
theorem nv_lt {b : Nat} (l : List Nat) (h : ∀ d ∈ l, d < b) : nv b l < b ^ l.length := by
  induction l with
  | nil => simp [nv]
  | cons d l ih =>
    have h1 := ih (fun x hx => h x (List.mem_cons_of_mem _ hx))
    have h2 := h d (List.mem_cons_self ..)
    have e : nv b (d :: l) = d * b ^ l.length + nv b l := by
      have := nv_app b [d] l
      rw [List.singleton_append] at this
      rw [this]; simp [nv]
    rw [e, List.length_cons, Nat.pow_succ, Nat.mul_comm (b ^ l.length) b]
    have h3 : (d + 1) * b ^ l.length ≤ b * b ^ l.length := Nat.mul_le_mul_right _ h2
    rw [Nat.add_mul, Nat.one_mul] at h3
    omega
theorem nv_take_le {b : Nat} (h : 1 ≤ b) (l : List Nat) (k : Nat) : nv b (l.take k) ≤ nv b l := by
  have h1 := nv_app b (l.take k) (l.drop k)
  rw [List.take_append_drop] at h1
  have h2 : 1 ≤ b ^ (l.drop k).length := Nat.pow_pos h
  have h3 := Nat.mul_le_mul_left (nv b (l.take k)) h2
  omega
theorem must_mulN {a b : Nat} (ha : (lim a).length ≤ 1024) (hb : (lim b).length ≤ 1024) : PC C ZaF [numD (resN (lim a) (lim b) (.inl (val (lim a) * val (lim b)))).1, .int .i64 (resN (lim a) (lim b) (.inl (val (lim a) * val (lim b)))).2] (fun o => ((lim (a * b)).length ≤ 1024 ∧ o = .ret (numD (a * b))) ∨ ∃ p, (¬ (lim (a * b)).length ≤ 1024 ∧ p = failW 2) ∧ o = .pan p) := by
  rw [val_lim, val_lim]; exact must_add ha hb
theorem must_addN {a b : Nat} (ha : (lim a).length ≤ 1024) (hb : (lim b).length ≤ 1024) : PC C ZaF [numD (resN (lim a) (lim b) (.inl (val (lim a) + val (lim b)))).1, .int .i64 (resN (lim a) (lim b) (.inl (val (lim a) + val (lim b)))).2] (fun o => ((lim (a + b)).length ≤ 1024 ∧ o = .ret (numD (a + b))) ∨ ∃ p, (¬ (lim (a + b)).length ≤ 1024 ∧ p = failW 2) ∧ o = .pan p) := by
  rw [val_lim, val_lim]; exact must_add ha hb
theorem Zd2 (l : List Nat) (hl : l.length ≤ 20000) (b : Nat) (hb2 : 2 ≤ b) (hb36 : b ≤ 36) (hd : ∀ d ∈ l, d < b) : PC C Zbt [sln .i64 l, .int .i64 (b : Int)] (fun o => ((lim (nv b l)).length ≤ 1024 ∧ o = .ret (numD (nv b l))) ∨ (¬ (lim (nv b l)).length ≤ 1024 ∧ o = .pan (failW 2))) := by
  obtain ⟨m, hm0, hm1, hm2⟩ := chk_ex b hb2 (by omega)
  have hm32 : m < 32 := by
    rcases Nat.lt_or_ge m 32 with h3 | h3
    · exact h3
    · exfalso
      have h4 := Nat.pow_le_pow_left hb2 m
      have h5 := Nat.pow_le_pow_right (n := 2) (by decide) h3
      omega
  refine PC.run Zc7 ZgC rfl ZgD rfl (rs := [.tmp 4]) (by rw [ZgE]) (by simp only [List.length_cons, List.length_nil, Nat.reduceAdd, Nat.reduceSub, List.replicate_succ, List.replicate_zero, List.cons_append, List.nil_append]; exact rfl) ?_
  refine ARun.seq (ARun.region ?_)
  refine y_op rfl (Zaa rfl) ?_
  refine AOps.nil (ARun.seq (ARun.region ?_))
  refine y_op rfl (q_move rfl) ?_
  refine y_op rfl (q_call rfl rfl (Zin b m hb2 hb36 hm0 hm1 hm2)) ?_
  refine y_op rfl (q_move rfl) ?_
  refine y_op rfl (Zab rfl rfl) ?_
  refine y_op rfl (Zab rfl rfl) ?_
  refine y_op rfl (Zaa rfl) ?_
  refine y_op rfl (Zaa rfl) ?_
  refine AOps.nil (ARun.seq (ARun.region ?_))
  refine y_op rfl (Zaa rfl) ?_
  refine AOps.nil (ARun.seq (ARun.block ?_))
  refine ARun.nil0 7 rfl ?_
  rw [← numD_zero, show numD 0 = numD (nv b (l.take 0)) from rfl]
  refine ARun.loopI (S := Nat) (fun j : Nat => [(8, .any), (9, .any), (10, .any), (12, .any), (18, .any), (19, .any), (20, .any), (21, .any), (22, .any), (23, .any), (24, .any), (25, .any), (26, .any), (27, .any), (28, .any), (29, .any), (30, .any), (31, .any), (32, .any), (33, .any), (34, .any), (35, .any), (36, .any), (37, .any), (38, .any), (39, .any), (40, .any), (41, .any), (42, .any), (43, .any), (44, .any), (45, .any), (46, .any), (47, .any), (48, .any), (49, .any), (50, .any), (51, .any), (52, .any), (53, .any), (54, .any), (55, .any), (56, .any), (57, .any), (58, .any), (59, .any), (60, .any), (61, .any), (62, .any), (63, .any), (0, sln .i64 (l.drop j)), (7, numD (nv b (l.take j)))]) (fun j : Nat => []) (fun j : Nat => j ≤ l.length ∧ (lim (nv b (l.take j))).length ≤ 1024) (fun j : Nat => l.length - j) (0) ?_ ?_ ?_ ?_
  · exact ⟨Nat.zero_le _, by show (lim 0).length ≤ 1024; rw [lim_zero]; decide⟩
  · (repeat' first | exact envLe_nil | apply envLe_any | apply envLe_same)
  · rfl
  rintro j hinv ih
  obtain ⟨hj, hf⟩ := hinv
  have hdl : (l.drop j).length = l.length - j := List.length_drop
  refine ARun.seq (ARun.seq (ARun.region ?_))
  refine y_op rfl (q_move rfl) ?_
  refine y_op rfl (Zac rfl rfl) ?_
  refine y_op rfl (q_int rfl rfl rfl) ?_
  refine AOps.nil ?_
  refine ARun.ite rfl (fun h => ?_) (fun h => ?_)
  · skip
    have hjl : j < l.length := by omega
    refine ARun.skip (ARun.block (ARun.seq (ARun.region ?_)))
    refine y_op rfl (q_move rfl) ?_
    refine y_op rfl (Zac rfl rfl) ?_
    refine y_op rfl (q_move rfl) ?_
    refine y_op rfl (q_rem (r := (((l.drop j).length % m : Nat) : Int)) rfl rfl (by omega) rfl) ?_
    refine y_op rfl (Zaa rfl) ?_
    refine AOps.nil (ARun.seq (ARun.seq (ARun.region ?_)))
    refine y_op rfl (q_move rfl) ?_
    refine y_op rfl (q_int rfl rfl rfl) ?_
    refine AOps.nil ?_
    refine ARun.join (S := Nat) (fun n : Nat => [(27, .any), (8, .int .i64 (n : Int))]) (fun n : Nat => 1 ≤ n ∧ n ≤ m ∧ n ≤ l.length - j) (fun run => ?_) ?_
    · skip
      have hmod := Nat.mod_lt (l.drop j).length hm0
      have hmle := Nat.mod_le (l.drop j).length m
      refine ARun.ite rfl (fun h3 => ?_) (fun h3 => ?_)
      · skip
        have h3' : (l.drop j).length % m = 0 := by omega
        have hmd : m ≤ (l.drop j).length := Nat.le_of_dvd (by omega) (Nat.dvd_of_mod_eq_zero h3')
        refine ARun.region ?_
        refine y_op rfl (q_move rfl) ?_
        refine y_op rfl (Zaa rfl) ?_
        refine AOps.nil ?_
        exact ARun.again (run (m) (⟨by omega, by omega, by omega⟩)) (by (repeat' first | exact envLe_nil | apply envLe_any | apply envLe_same)) rfl
      · skip
        refine ARun.skip ?_
        exact ARun.again (run ((l.drop j).length % m) (⟨by omega, by omega, by omega⟩)) (by (repeat' first | exact envLe_nil | apply envLe_any | apply envLe_same)) rfl
    · rintro n hj
      try dsimp only at hj ⊢
      obtain ⟨n1, n2, n3⟩ := hj
      have ihO := ih
      have hdd : ∀ d ∈ l.drop j, d < b := fun d hx => hd d (List.mem_of_mem_drop hx)
      have hle : ∀ i, i ≤ n → nv b ((l.drop j).take i) < b ^ i ∧ b ^ i < 4294967296 := fun i hi => by
        have h5 := nv_lt (b := b) ((l.drop j).take i) (fun d hx => hdd d (List.mem_of_mem_take hx))
        rw [List.length_take, Nat.min_eq_left (by omega)] at h5
        exact ⟨h5, Nat.lt_of_le_of_lt (Nat.pow_le_pow_right (by omega) (by omega)) hm1⟩
      refine ARun.seq (ARun.region ?_)
      refine y_op rfl (Zaa rfl) ?_
      refine y_op rfl (Zaa rfl) ?_
      refine AOps.nil (ARun.seq (ARun.seq (ARun.region ?_)))
      refine y_op rfl (q_move rfl) ?_
      refine y_op rfl (q_move rfl) ?_
      refine y_op rfl (Zcr (m := n) (ds := nts .i64 ((l.drop j).take n)) rfl rfl rfl rfl rfl (bnd_nat rfl rfl) (by omega) (by omega) (by simp) (by simp) (by rw [nts_slice]; simp)) ?_
      refine y_op rfl (Zac rfl rfl) ?_
      refine y_op rfl (q_move rfl) ?_
      refine AOps.nil (ARun.block ?_)
      refine ARun.loopI (S := Nat) (fun i : Nat => [(12, .any), (33, .any), (34, .any), (35, .any), (36, .any), (37, .any), (38, .any), (39, .any), (40, .any), (41, .any), (42, .any), (43, .any), (44, .any), (45, .any), (46, .any), (47, .any), (9, .int .u64 ((nv b ((l.drop j).take i) : Nat) : Int)), (10, .int .u64 ((b ^ i : Nat) : Int)), (32, .int .i64 (i : Int))]) (fun i : Nat => []) (fun i : Nat => i ≤ n) (fun i : Nat => n - i) (0) ?_ ?_ ?_ ?_
      · exact Nat.zero_le _
      · (repeat' first | exact envLe_nil | apply envLe_any | apply envLe_same)
      · rfl
      rintro i hinv ih
      obtain ⟨p1, p2⟩ := hle i hinv
      refine ARun.seq (ARun.region ?_)
      refine y_op rfl (q_int rfl rfl rfl) ?_
      refine AOps.nil (ARun.seq ?_)
      refine ARun.ite rfl (fun h4 => ?_) (fun h4 => ?_)
      · skip
        have hi : i < n := by omega
        have htl : ((l.drop j).take n).length = n := by rw [List.length_take]; omega
        have hdv : ((l.drop j).take n).getD i 0 = (l.drop j).getD i 0 := getD_take hi
        have hdb : (l.drop j).getD i 0 < b := by
          rw [List.getD_eq_getElem?_getD, List.getElem?_eq_getElem (by omega)]
          exact hdd _ (List.getElem_mem _)
        have hPb : nv b ((l.drop j).take i) * b ≤ 4294967296 * 36 := Nat.mul_le_mul (by omega) hb36
        have hSb : b ^ i * b ≤ 4294967296 * 36 := Nat.mul_le_mul (by omega) hb36
        have hs1 : nv b ((l.drop j).take (i + 1)) = nv b ((l.drop j).take i) * b + (l.drop j).getD i 0 := by
          rw [take_getD (by omega), nv_snoc]
        have hs2 : b ^ (i + 1) = b ^ i * b := Nat.pow_succ ..
        refine ARun.skip (ARun.seq (ARun.block (ARun.seq (ARun.region ?_))))
        refine y_op rfl (Zam (i := i) rfl rfl rfl rfl (by omega) (by omega) (nts_ne (by omega)) (drop_nat rfl)) ?_
        refine y_op rfl (q_load rfl rfl rfl (nts_load (i := i) (by omega))) ?_
        refine y_op rfl (Zaa rfl) ?_
        refine AOps.nil (ARun.region ?_)
        refine y_op rfl (q_move rfl) ?_
        refine y_op rfl (q_move rfl) ?_
        refine y_op rfl (q_conv rfl rfl rfl (nconv_u64 (by omega))) ?_
        refine y_op rfl (q_mul rfl rfl (show _ = ((nv b ((l.drop j).take i) * b : Nat) : Int) by rw [← Int.natCast_mul, IntKind.wrap_u64]; omega)) ?_
        refine y_op rfl (q_move rfl) ?_
        refine y_op rfl (q_conv rfl rfl rfl (nconv_u64 (by omega))) ?_
        refine y_op rfl (q_add rfl rfl (show _ = ((nv b ((l.drop j).take (i + 1)) : Nat) : Int) by rw [IntKind.wrap_u64, hdv, hs1]; omega)) ?_
        refine y_op rfl (q_move rfl) ?_
        refine y_op rfl (q_move rfl) ?_
        refine y_op rfl (q_conv rfl rfl rfl (nconv_u64 (by omega))) ?_
        refine y_op rfl (q_mul rfl rfl (show _ = ((b ^ (i + 1) : Nat) : Int) by rw [← Int.natCast_mul, IntKind.wrap_u64, hs2]; omega)) ?_
        refine y_op rfl (Zaa rfl) ?_
        refine y_op rfl (Zaa rfl) ?_
        refine AOps.nil (ARun.inBlock (ARun.region ?_))
        refine y_op rfl (q_add rfl rfl (nadd1_i64 (by omega))) ?_
        refine y_op rfl (q_move rfl) ?_
        refine AOps.nil ?_
        refine ARun.again (ih (i + 1) ?_ ?_) ?_ ?_
        · exact hi
        · omega
        · (repeat' first | exact envLe_nil | apply envLe_any | apply envLe_same)
        · rfl
      · skip
        obtain rfl : i = n := by omega
        have hsum : nv b (l.take (j + i)) = nv b (l.take j) * b ^ i + nv b ((l.drop j).take i) := by
          have h6 := nv_app b (l.take j) ((l.drop j).take i)
          rw [← List.take_add, List.length_take, Nat.min_eq_left (by omega)] at h6
          exact h6
        have hall := nv_take_le (b := b) (by omega) l (j + i)
        have hfs : (lim (b ^ i)).length ≤ 1024 := Nat.le_trans (ln_le (k := 1) (by rw [Nat.pow_one, B_eq]; exact p2)) (by decide)
        have hfp : (lim (nv b ((l.drop j).take i))).length ≤ 1024 := Nat.le_trans (ln_le (k := 1) (by rw [Nat.pow_one, B_eq]; omega)) (by decide)
        refine ARun.exit rfl ?_
        refine ARun.seq (ARun.region ?_)
        refine y_op rfl (q_move rfl) ?_
        refine y_op rfl (q_move rfl) ?_
        refine y_op rfl (q_call rfl rfl (Zbh (b ^ i) (by omega))) ?_
        refine y_op rfl (q_call rfl rfl (Zil (lim (nv b (l.take j))) (lim (b ^ i)) (U32_lim _) (U32_lim _))) ?_
        refine y_op rfl (Zab rfl rfl) ?_
        refine y_op rfl (Zab rfl rfl) ?_
        refine y_gop rfl (g_call rfl rfl (must_mulN hf hfs)) (fun hg => ?_) (fun q hq => by obtain ⟨hq, rfl⟩ := hq; exact ⟨_, _, .same _, rfl, .inr ⟨fun hx => hq (Nat.le_trans (ln_mono (by omega)) hx), rfl⟩⟩)
        refine y_op rfl (q_move rfl) ?_
        refine y_op rfl (q_call rfl rfl (Zbh (nv b ((l.drop j).take i)) (by omega))) ?_
        refine y_op rfl (q_call rfl rfl (Zik (lim (nv b (l.take j) * b ^ i)) (lim (nv b ((l.drop j).take i))) (U32_lim _) (U32_lim _))) ?_
        refine y_op rfl (Zab rfl rfl) ?_
        refine y_op rfl (Zab rfl rfl) ?_
        refine y_gop rfl (g_call rfl rfl (must_addN hg hfp)) (fun hg2 => ?_) (fun q hq => by obtain ⟨hq, rfl⟩ := hq; exact ⟨_, _, .same _, rfl, .inr ⟨fun hx => hq (Nat.le_trans (ln_mono (by omega)) hx), rfl⟩⟩)
        rw [← hsum] at hg2 ⊢
        refine y_op rfl (Zaa rfl) ?_
        refine AOps.nil (ARun.region ?_)
        refine y_op rfl (q_move rfl) ?_
        refine y_op rfl (q_move rfl) ?_
        refine y_op rfl (Zcr (m := (l.drop (j + i)).length) (ds := nts .i64 (l.drop (j + i))) rfl rfl rfl rfl (bnd_nat rfl rfl) rfl (by omega) (by omega) (by simp) (by simp; omega) (by rw [nts_slice, List.take_of_length_le (Nat.le_refl _), List.drop_drop])) ?_
        refine y_op rfl (Zaa rfl) ?_
        refine AOps.nil (ARun.inBlock ?_)
        refine ARun.again (ihO (j + i) ?_ ?_) ?_ ?_
        · exact ⟨by omega, hg2⟩
        · omega
        · (repeat' first | exact envLe_nil | apply envLe_any | apply envLe_same)
        · rfl
  · skip
    obtain rfl : j = l.length := by omega
    rw [List.take_length] at hf ⊢
    refine ARun.exit rfl ?_
    refine ARun.seq (ARun.region ?_)
    refine y_op rfl (q_move rfl) ?_
    refine y_op rfl (Zaa rfl) ?_
    refine AOps.nil ?_
    refine ARun.ret ?_
    refine ⟨_, _, _, .tmp rfl .nil, .cons (.same _) .nil, rfl, ?_⟩
    exact .inl ⟨hf, rfl⟩
end Go.V
set_option maxHeartbeats 8000000
set_option maxRecDepth 100000
set_option synthInstance.maxSize 100000
set_option synthInstance.maxHeartbeats 2000000
namespace Go.V
open Go.RowKit Go.Proofs
abbrev sMinus : ByteArray := ⟨#[45]⟩
abbrev sPlus : ByteArray := ⟨#[43]⟩
def sgAt (s : ByteArray) : Nat := bif isAt s 0 sMinus || isAt s 0 sPlus then 1 else 0
noncomputable def parseR (base : Int) (s : ByteArray) : Int × Int × Int :=
  if ¬ (2 ≤ base ∧ base ≤ 36) then (0, 1, 0) else if 20000 < s.size then (0, 2, 0) else
    if (dgAt base.toNat s (sgAt s)).length = 0 then (0, 6, ((sgAt s : Nat) : Int)) else
    if sgAt s + (dgAt base.toNat s (sgAt s)).length < s.size then (0, 6, ((sgAt s + (dgAt base.toNat s (sgAt s)).length : Nat) : Int)) else
    if (lim (nv base.toNat (dgAt base.toNat s (sgAt s)))).length ≤ 1024 then (sgnd (isAt s 0 sMinus) (nv base.toNat (dgAt base.toNat s (sgAt s))), 0, 0) else (0, 2, 0)
abbrev pOut (r : Int × Int × Int) : Out := .ret (.tup [intD r.1, .int .i64 r.2.1, .int .i64 r.2.2])
theorem dgAt_all {b : Nat} {s : ByteArray} {i : Nat} : ∀ d ∈ dgAt b s i, d < b := by
  intro d hd
  obtain ⟨m, hm, he⟩ := List.getElem_of_mem hd
  have h := dgAt_lt (b := b) (s := s) (i := i) m hm
  rw [List.getD_eq_getElem?_getD, List.getElem?_eq_getElem hm] at h
  have h2 : d = digV ((sby s).getD (i + m) 0) := he.symm.trans h.2.1
  rw [h2]; exact h.2.2
noncomputable abbrev QP (r : Int × Int × Int) : Post := QFin C [.cell 4 25, .cell 5 28, .cell 6 3] fun o _ => o.pure = true ∧ o = pOut r
theorem panF {r : Int × Int × Int} {e : Int} {env : List D} {tl : Heap} (h4 : env[4]? = some (.ptr 0 0)) (h5 : env[5]? = some (.ptr 1 0)) (h6 : env[6]? = some (.ptr 2 0)) (hr : r = (0, e, 0)) : QP r (.pan (failW e)) env (cell0 :: errO 0 :: intO 0 :: tl) [.fn Zbv [.ptr 1 0, .ptr 2 0]] := by
  refine DC.mono (dct_fail _ 1 2 0 0 e rfl rfl (by decide)) ?_
  rintro _ _ ⟨rfl, rfl⟩
  exact ⟨_, _, _, ResR.cellA h4 rfl rfl rfl rfl rfl (ResR.cell1 h5 rfl rfl rfl rfl (ResR.cell1 h6 rfl rfl rfl rfl .nil)), .cons fz_int0 (.cons (.same _) (.cons (.same _) .nil)), rfl, by rw [hr]; rfl⟩
theorem panW {r : Int × Int × Int} {n : Int} {env : List D} {tl : Heap} (h4 : env[4]? = some (.ptr 0 0)) (h5 : env[5]? = some (.ptr 1 0)) (h6 : env[6]? = some (.ptr 2 0)) (hr : r = (0, 6, n)) : QP r (.pan (wrongW n)) env (cell0 :: errO 0 :: intO 0 :: tl) [.fn Zbv [.ptr 1 0, .ptr 2 0]] := by
  refine DC.mono (dct_wrong _ 1 2 0 0 n rfl rfl (by decide)) ?_
  rintro _ _ ⟨rfl, rfl⟩
  exact ⟨_, _, _, ResR.cellA h4 rfl rfl rfl rfl rfl (ResR.cell1 h5 rfl rfl rfl rfl (ResR.cell1 h6 rfl rfl rfl rfl .nil)), .cons fz_int0 (.cons (.same _) (.cons (.same _) .nil)), rfl, by rw [hr]; rfl⟩
theorem Zdn (s : ByteArray) (base : Int) : PC C Zcm [.str s, .int .i64 base] (fun o => o = pOut (parseR base s)) := by
  refine PC.run Zdz Zhr rfl Zhs rfl (rs := [.cell 4 25, .cell 5 28, .cell 6 3]) (by rw [Zht]) (by simp only [List.length_cons, List.length_nil, Nat.reduceAdd, Nat.reduceSub, List.replicate_succ, List.replicate_zero, List.cons_append, List.nil_append]; exact rfl) ?_
  refine ARun.seq (ARun.region ?_)
  refine y_new rfl (Zak rfl rfl rfl rfl) ?_
  refine y_new rfl (Zak rfl rfl rfl rfl) ?_
  refine y_new rfl (Zak rfl rfl rfl rfl) ?_
  refine AOps.nil (ARun.seq (ARun.region ?_))
  refine ZeX rfl rfl rfl ?_
  refine AOps.nil (ARun.seq (ARun.region ?_))
  refine y_op rfl (q_move rfl) ?_
  refine y_op rfl (q_int rfl rfl rfl) ?_
  refine y_op rfl (q_move rfl) ?_
  refine AOps.bool 12 rfl (fun g1 => ?_) (fun g1 => ?_)
  · skip
    have g1 := of_decide_eq_true g1
    refine y_op rfl (q_move rfl) ?_
    refine y_op rfl (q_int rfl rfl rfl) ?_
    refine y_op rfl (q_pick rfl rfl rfl rfl) ?_
    refine y_gop rfl (g_call rfl rfl (PC.gp (ZaL _ 1))) (fun hg => ?_) (fun q hq => by obtain ⟨hq, rfl⟩ := hq; exact panF (tl := []) rfl rfl rfl (by have hq : ¬ base ≤ 36 := of_decide_eq_false hq; unfold parseR; rw [if_pos (fun h => hq h.2)]))
    have hg : base ≤ 36 := of_decide_eq_true hg
    refine AOps.nil (ARun.seq (ARun.region ?_))
    refine y_op rfl (q_move rfl) ?_
    refine y_op rfl (ZaB rfl rfl) ?_
    refine y_op rfl (q_int rfl rfl rfl) ?_
    refine y_gop rfl (g_call rfl rfl (PC.gp (ZaL _ 2))) (fun hg2 => ?_) (fun q hq => by obtain ⟨hq, rfl⟩ := hq; exact panF (tl := []) rfl rfl rfl (by have hq : ¬ (s.size : Int) ≤ 20000 := of_decide_eq_false hq; unfold parseR; rw [if_neg (by omega), if_pos (by omega)]))
    have hs : s.size ≤ 20000 := by have := of_decide_eq_true hg2; omega
    obtain ⟨b, rfl⟩ : ∃ b : Nat, base = (b : Int) := ⟨base.toNat, by omega⟩
    have hP : parseR (b : Int) s = if (dgAt b s (sgAt s)).length = 0 then (0, 6, ((sgAt s : Nat) : Int)) else if sgAt s + (dgAt b s (sgAt s)).length < s.size then (0, 6, ((sgAt s + (dgAt b s (sgAt s)).length : Nat) : Int)) else if (lim (nv b (dgAt b s (sgAt s)))).length ≤ 1024 then (sgnd (isAt s 0 sMinus) (nv b (dgAt b s (sgAt s))), 0, 0) else (0, 2, 0) := by
      unfold parseR
      rw [if_neg (by omega), if_neg (by omega), Int.toNat_natCast]
    rw [hP]
    refine AOps.nil (ARun.seq (ARun.region ?_))
    refine y_op rfl (q_move rfl) ?_
    refine y_op rfl (Zap rfl rfl rfl rfl rfl) ?_
    refine y_new rfl (n_box rfl rfl rfl) ?_
    refine y_op rfl (Zaa rfl) ?_
    refine AOps.nil (ARun.seq (ARun.region ?_))
    refine y_op rfl (q_move rfl) ?_
    refine ZaY rfl rfl rfl rfl (Znl _ 3 s sMinus 0 rfl hs) ?_ (by rintro _ _ ⟨h, _⟩; cases h)
    rintro _ _ ⟨h, rfl⟩
    injection h with h
    subst h
    refine y_op rfl (Zaa rfl) ?_
    refine AOps.nil (ARun.seq (ARun.seq (ARun.region ?_)))
    refine y_op rfl (q_move rfl) ?_
    refine y_op rfl (q_not rfl) ?_
    refine AOps.nil ?_
    refine ARun.cond rfl (fun hn => ?_) (fun hn => ?_)
    · skip
      have hm : isAt s 0 sMinus = false := by simpa using hn
      rw [hm]
      refine ARun.region ?_
      refine y_op rfl (q_move rfl) ?_
      refine ZaY rfl rfl rfl rfl (Znl _ 3 s sPlus 0 rfl hs) ?_ (by rintro _ _ ⟨h, _⟩; cases h)
      rintro _ _ ⟨h, rfl⟩
      injection h with h
      subst h
      cases hp : isAt s 0 sPlus with
      | false =>
        have hsg : sgAt s = 0 := by unfold sgAt; rw [hm, hp]; rfl
        rw [hsg]
        refine AOps.hp (H' := [cell0, errO 0, intO 0, rdO s ((0 : Nat) : Int)]) rfl ?_
        refine AOps.nil (ARun.seq (ARun.region ?_))
        refine y_op rfl (q_move rfl) ?_
        refine y_op rfl (q_move rfl) ?_
        refine ZaY rfl rfl rfl rfl (Ze3 [cell0, errO 0, intO 0, rdO s ((0 : Nat) : Int)] 3 s 0 b hs (by omega) rfl) ?_ (fun q H' hq => hq.elim (fun ⟨h0, hq, J, e⟩ => by (injection hq with hq; subst hq; subst e; exact panW (tl := rdO s ((0 : Nat) : Int) :: J) rfl rfl rfl (by rw [if_pos h0]))) (fun ⟨_, hq, _⟩ => by cases hq))
        rintro _ _ (⟨_, h, _⟩ | ⟨hpos, h, J, rfl⟩)
        · cases h
        injection h with h
        subst h
        refine y_op rfl (Zaa rfl) ?_
        refine AOps.nil (ARun.seq (ARun.region ?_))
        refine y_op rfl (q_move rfl) ?_
        refine ZaY rfl rfl rfl rfl (hc_end _ 3 s (0 + (dgAt b s 0).length) (rd_get (H := [cell0, errO 0, intO 0, rdO s ((0 : Nat) : Int)]) (i := ((0 : Nat) : Int)) rfl)) ?_ (fun q H' hq => by obtain ⟨rfl, hq⟩ := hq; exact hq.elim (fun ⟨_, hq⟩ => by cases hq) (fun ⟨hlt, hq⟩ => by (injection hq with hq; subst hq; exact panW (tl := rdO s ((0 + (dgAt b s 0).length : Nat) : Int) :: J) rfl rfl rfl (by rw [if_neg (by omega), if_pos hlt]))))
        rintro _ _ ⟨rfl, hq⟩
        rcases hq with ⟨hge, h⟩ | ⟨_, h⟩
        rotate_left
        · cases h
        injection h with h
        subst h
        have hnum : PC C Zbt [sln .i64 (dgAt b s 0), .int .i64 (b : Int)] (fun o => ((lim (nv b (dgAt b s 0))).length ≤ 1024 ∧ o = .ret (numD (nv b (dgAt b s 0)))) ∨ ∃ p, (¬ (lim (nv b (dgAt b s 0))).length ≤ 1024 ∧ p = failW 2) ∧ o = .pan p) :=
          (Zd2 (dgAt b s 0) (by have := dgAt_le b s 0; omega) b (by omega) (by omega) dgAt_all).mono fun o ho => ho.imp id (fun ⟨x, y⟩ => ⟨_, ⟨x, rfl⟩, y⟩)
        refine AOps.hp (H' := cell0 :: errO 0 :: intO 0 :: rdO s ((0 + (dgAt b s 0).length : Nat) : Int) :: J) rfl ?_
        refine AOps.nil (ARun.seq (ARun.region ?_))
        refine y_op rfl (q_move rfl) ?_
        refine y_op rfl (q_move rfl) ?_
        refine y_op rfl (q_move rfl) ?_
        refine y_gop rfl (g_call rfl rfl hnum) (fun hg3 => ?_) (fun q hq => by obtain ⟨hq, rfl⟩ := hq; exact panF (tl := rdO s ((0 + (dgAt b s 0).length : Nat) : Int) :: J) rfl rfl rfl (by rw [if_neg (by omega), if_neg (by omega), if_neg hq]))
        rw [if_neg (by omega), if_neg (by omega), if_pos hg3]
        refine y_op rfl (q_call rfl rfl (Zan false (nv b (dgAt b s 0)))) ?_
        refine y_new rfl (Zad rfl rfl rfl rfl rfl rfl rfl rfl (Nat.le_of_ble_eq_true rfl) rfl) ?_
        refine y_new rfl (Zag rfl rfl rfl rfl rfl rfl (Nat.le_of_ble_eq_true rfl) rfl) ?_
        refine y_new rfl (Zag rfl rfl rfl rfl rfl rfl (Nat.le_of_ble_eq_true rfl) rfl) ?_
        refine AOps.nil ?_
        refine ARun.ret ?_
        refine DC.mono (dct_ret _ 1 2) ?_
        rintro _ _ ⟨rfl, rfl⟩
        exact ⟨_, _, _, ResR.cellA rfl rfl rfl rfl rfl rfl (ResR.cell1 rfl rfl rfl rfl rfl (ResR.cell1 rfl rfl rfl rfl rfl .nil)), .cons (.same _) (.cons (.same _) (.cons (.same _) .nil)), rfl, rfl⟩
      | true =>
        have hsg : sgAt s = 1 := by unfold sgAt; rw [hm, hp]; rfl
        rw [hsg]
        refine AOps.hp (H' := [cell0, errO 0, intO 0, rdO s ((1 : Nat) : Int)]) rfl ?_
        refine AOps.nil (ARun.seq (ARun.region ?_))
        refine y_op rfl (q_move rfl) ?_
        refine y_op rfl (q_move rfl) ?_
        refine ZaY rfl rfl rfl rfl (Ze3 [cell0, errO 0, intO 0, rdO s ((1 : Nat) : Int)] 3 s 1 b hs (by omega) rfl) ?_ (fun q H' hq => hq.elim (fun ⟨h0, hq, J, e⟩ => by (injection hq with hq; subst hq; subst e; exact panW (tl := rdO s ((1 : Nat) : Int) :: J) rfl rfl rfl (by rw [if_pos h0]))) (fun ⟨_, hq, _⟩ => by cases hq))
        rintro _ _ (⟨_, h, _⟩ | ⟨hpos, h, J, rfl⟩)
        · cases h
        injection h with h
        subst h
        refine y_op rfl (Zaa rfl) ?_
        refine AOps.nil (ARun.seq (ARun.region ?_))
        refine y_op rfl (q_move rfl) ?_
        refine ZaY rfl rfl rfl rfl (hc_end _ 3 s (1 + (dgAt b s 1).length) (rd_get (H := [cell0, errO 0, intO 0, rdO s ((1 : Nat) : Int)]) (i := ((1 : Nat) : Int)) rfl)) ?_ (fun q H' hq => by obtain ⟨rfl, hq⟩ := hq; exact hq.elim (fun ⟨_, hq⟩ => by cases hq) (fun ⟨hlt, hq⟩ => by (injection hq with hq; subst hq; exact panW (tl := rdO s ((1 + (dgAt b s 1).length : Nat) : Int) :: J) rfl rfl rfl (by rw [if_neg (by omega), if_pos hlt]))))
        rintro _ _ ⟨rfl, hq⟩
        rcases hq with ⟨hge, h⟩ | ⟨_, h⟩
        rotate_left
        · cases h
        injection h with h
        subst h
        have hnum : PC C Zbt [sln .i64 (dgAt b s 1), .int .i64 (b : Int)] (fun o => ((lim (nv b (dgAt b s 1))).length ≤ 1024 ∧ o = .ret (numD (nv b (dgAt b s 1)))) ∨ ∃ p, (¬ (lim (nv b (dgAt b s 1))).length ≤ 1024 ∧ p = failW 2) ∧ o = .pan p) :=
          (Zd2 (dgAt b s 1) (by have := dgAt_le b s 1; omega) b (by omega) (by omega) dgAt_all).mono fun o ho => ho.imp id (fun ⟨x, y⟩ => ⟨_, ⟨x, rfl⟩, y⟩)
        refine AOps.hp (H' := cell0 :: errO 0 :: intO 0 :: rdO s ((1 + (dgAt b s 1).length : Nat) : Int) :: J) rfl ?_
        refine AOps.nil (ARun.seq (ARun.region ?_))
        refine y_op rfl (q_move rfl) ?_
        refine y_op rfl (q_move rfl) ?_
        refine y_op rfl (q_move rfl) ?_
        refine y_gop rfl (g_call rfl rfl hnum) (fun hg3 => ?_) (fun q hq => by obtain ⟨hq, rfl⟩ := hq; exact panF (tl := rdO s ((1 + (dgAt b s 1).length : Nat) : Int) :: J) rfl rfl rfl (by rw [if_neg (by omega), if_neg (by omega), if_neg hq]))
        rw [if_neg (by omega), if_neg (by omega), if_pos hg3]
        refine y_op rfl (q_call rfl rfl (Zan false (nv b (dgAt b s 1)))) ?_
        refine y_new rfl (Zad rfl rfl rfl rfl rfl rfl rfl rfl (Nat.le_of_ble_eq_true rfl) rfl) ?_
        refine y_new rfl (Zag rfl rfl rfl rfl rfl rfl (Nat.le_of_ble_eq_true rfl) rfl) ?_
        refine y_new rfl (Zag rfl rfl rfl rfl rfl rfl (Nat.le_of_ble_eq_true rfl) rfl) ?_
        refine AOps.nil ?_
        refine ARun.ret ?_
        refine DC.mono (dct_ret _ 1 2) ?_
        rintro _ _ ⟨rfl, rfl⟩
        exact ⟨_, _, _, ResR.cellA rfl rfl rfl rfl rfl rfl (ResR.cell1 rfl rfl rfl rfl rfl (ResR.cell1 rfl rfl rfl rfl rfl .nil)), .cons (.same _) (.cons (.same _) (.cons (.same _) .nil)), rfl, rfl⟩
    · skip
      have hm : isAt s 0 sMinus = true := by simpa using hn
      have hsg : sgAt s = 1 := by unfold sgAt; rw [hm]; rfl
      rw [hm, hsg]
      refine ARun.hp (H' := [cell0, errO 0, intO 0, rdO s ((1 : Nat) : Int)]) rfl ?_
      refine ARun.skip (ARun.seq (ARun.region ?_))
      refine y_op rfl (q_move rfl) ?_
      refine y_op rfl (q_move rfl) ?_
      refine ZaY rfl rfl rfl rfl (Ze3 [cell0, errO 0, intO 0, rdO s ((1 : Nat) : Int)] 3 s 1 b hs (by omega) rfl) ?_ (fun q H' hq => hq.elim (fun ⟨h0, hq, J, e⟩ => by (injection hq with hq; subst hq; subst e; exact panW (tl := rdO s ((1 : Nat) : Int) :: J) rfl rfl rfl (by rw [if_pos h0]))) (fun ⟨_, hq, _⟩ => by cases hq))
      rintro _ _ (⟨_, h, _⟩ | ⟨hpos, h, J, rfl⟩)
      · cases h
      injection h with h
      subst h
      refine y_op rfl (Zaa rfl) ?_
      refine AOps.nil (ARun.seq (ARun.region ?_))
      refine y_op rfl (q_move rfl) ?_
      refine ZaY rfl rfl rfl rfl (hc_end _ 3 s (1 + (dgAt b s 1).length) (rd_get (H := [cell0, errO 0, intO 0, rdO s ((1 : Nat) : Int)]) (i := ((1 : Nat) : Int)) rfl)) ?_ (fun q H' hq => by obtain ⟨rfl, hq⟩ := hq; exact hq.elim (fun ⟨_, hq⟩ => by cases hq) (fun ⟨hlt, hq⟩ => by (injection hq with hq; subst hq; exact panW (tl := rdO s ((1 + (dgAt b s 1).length : Nat) : Int) :: J) rfl rfl rfl (by rw [if_neg (by omega), if_pos hlt]))))
      rintro _ _ ⟨rfl, hq⟩
      rcases hq with ⟨hge, h⟩ | ⟨_, h⟩
      rotate_left
      · cases h
      injection h with h
      subst h
      have hnum : PC C Zbt [sln .i64 (dgAt b s 1), .int .i64 (b : Int)] (fun o => ((lim (nv b (dgAt b s 1))).length ≤ 1024 ∧ o = .ret (numD (nv b (dgAt b s 1)))) ∨ ∃ p, (¬ (lim (nv b (dgAt b s 1))).length ≤ 1024 ∧ p = failW 2) ∧ o = .pan p) :=
        (Zd2 (dgAt b s 1) (by have := dgAt_le b s 1; omega) b (by omega) (by omega) dgAt_all).mono fun o ho => ho.imp id (fun ⟨x, y⟩ => ⟨_, ⟨x, rfl⟩, y⟩)
      refine AOps.hp (H' := cell0 :: errO 0 :: intO 0 :: rdO s ((1 + (dgAt b s 1).length : Nat) : Int) :: J) rfl ?_
      refine AOps.nil (ARun.seq (ARun.region ?_))
      refine y_op rfl (q_move rfl) ?_
      refine y_op rfl (q_move rfl) ?_
      refine y_op rfl (q_move rfl) ?_
      refine y_gop rfl (g_call rfl rfl hnum) (fun hg3 => ?_) (fun q hq => by obtain ⟨hq, rfl⟩ := hq; exact panF (tl := rdO s ((1 + (dgAt b s 1).length : Nat) : Int) :: J) rfl rfl rfl (by rw [if_neg (by omega), if_neg (by omega), if_neg hq]))
      rw [if_neg (by omega), if_neg (by omega), if_pos hg3]
      refine y_op rfl (q_call rfl rfl (Zan true (nv b (dgAt b s 1)))) ?_
      refine y_new rfl (Zad rfl rfl rfl rfl rfl rfl rfl rfl (Nat.le_of_ble_eq_true rfl) rfl) ?_
      refine y_new rfl (Zag rfl rfl rfl rfl rfl rfl (Nat.le_of_ble_eq_true rfl) rfl) ?_
      refine y_new rfl (Zag rfl rfl rfl rfl rfl rfl (Nat.le_of_ble_eq_true rfl) rfl) ?_
      refine AOps.nil ?_
      refine ARun.ret ?_
      refine DC.mono (dct_ret _ 1 2) ?_
      rintro _ _ ⟨rfl, rfl⟩
      exact ⟨_, _, _, ResR.cellA rfl rfl rfl rfl rfl rfl (ResR.cell1 rfl rfl rfl rfl rfl (ResR.cell1 rfl rfl rfl rfl rfl .nil)), .cons (.same _) (.cons (.same _) (.cons (.same _) .nil)), rfl, rfl⟩
  · skip
    have g1 := of_decide_eq_false g1
    refine y_skip rfl ?_
    refine y_skip rfl ?_
    refine y_op rfl (q_pick rfl rfl rfl rfl) ?_
    refine y_gop rfl (g_call rfl rfl (PC.gp (ZaL _ 1))) (fun hg => by cases hg) (fun q hq => by obtain ⟨hq, rfl⟩ := hq; exact panF (tl := []) rfl rfl rfl (by unfold parseR; rw [if_pos (fun h => g1 h.1)]))
end Go.V
namespace Go.V
theorem nmV_nv {b : Nat} : ∀ (l : List Nat) (a : Nat), (∀ c ∈ l, digV c < b) → nmV b a l = (l.map digV).foldl (fun a d => a * b + d) a
  | [], a, _ => rfl
  | c :: l, a, h => by
    have hc := h c (List.mem_cons_self ..)
    have ih := nmV_nv l (a * b + digV c) (fun x hx => h x (List.mem_cons_of_mem _ hx))
    unfold nmV at ih ⊢
    rw [List.foldl_cons, if_pos hc, ih, List.map_cons, List.foldl_cons]
theorem takeWhile_full {α : Type} {p : α → Bool} : ∀ (l : List α), (l.takeWhile p).length = l.length → l.takeWhile p = l ∧ ∀ c ∈ l, p c = true
  | [], _ => ⟨rfl, fun _ h => by cases h⟩
  | c :: l, h => by
    rw [List.takeWhile_cons] at h ⊢
    by_cases hc : p c = true
    · rw [if_pos hc] at h ⊢
      obtain ⟨h1, h2⟩ := takeWhile_full l (by simpa using h)
      refine ⟨by rw [h1], fun x hx => ?_⟩
      rcases List.mem_cons.1 hx with rfl | hx
      · exact hc
      · exact h2 x hx
    · rw [if_neg hc] at h; cases h
theorem nmV_dgAt {b : Nat} {s : ByteArray} {i : Nat} (hi : i ≤ s.size) (h : i + (dgAt b s i).length = s.size) : nmV b 0 ((sby s).drop i) = nv b (dgAt b s i) := by
  have hl := sby_len s
  unfold dgAt at h ⊢
  rw [List.length_map] at h
  obtain ⟨h1, h2⟩ := takeWhile_full (p := fun c => decide (digV c < b)) ((sby s).drop i) (by rw [List.length_drop]; omega)
  rw [h1, nmV_nv _ _ (fun c hc => of_decide_eq_true (h2 c hc))]
  rfl
theorem isAt_one {s : ByteArray} {i : Nat} {c : UInt8} : isAt s i ⟨#[c]⟩ = (decide (i < s.size) && decide ((sby s).getD i 0 = c.toNat)) := by
  have hlt := sby_lt (s := s) i
  unfold isAt
  congr 1
  apply decide_eq_decide.2
  show UInt8.ofNat ((sby s).getD i 0) ∈ [c] ↔ _
  rw [List.mem_singleton]
  constructor
  · intro h
    rw [← h, UInt8.toNat_ofNat']
    omega
  · intro h
    rw [h]
    apply UInt8.toNat_inj.1
    rw [UInt8.toNat_ofNat']
    have := c.toNat_lt
    omega
end Go.V
