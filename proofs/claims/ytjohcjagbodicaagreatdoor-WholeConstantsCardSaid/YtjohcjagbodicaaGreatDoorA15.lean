/- A part of the proof: abstract values, rules for the steps of the program's form, and contracts of its functions, each proved; no condition. -/
import Derived.Test.YtjohcjagbodicaaGreatDoorA14
import Derived.Shelf.Strings.Search1
set_option linter.unusedVariables false
set_option linter.unusedSimpArgs false
set_option maxHeartbeats 4000000
set_option maxRecDepth 100000
set_option synthInstance.maxSize 100000
set_option synthInstance.maxHeartbeats 2000000
namespace Go.V
open Go.RowKit Go.Proofs
def sby (s : ByteArray) : List Nat := s.data.toList.map (·.toNat)
theorem sby_len (s : ByteArray) : (sby s).length = s.size := by
  unfold sby; rw [List.length_map, Array.length_toList]; rfl
theorem sby_lt {s : ByteArray} (i : Nat) : (sby s).getD i 0 < 256 := by
  rw [List.getD_eq_getElem?_getD]
  unfold sby
  rw [List.getElem?_map]
  cases h : s.data.toList[i]? with
  | none => decide
  | some u => exact u.toNat_lt
theorem sby_get {s : ByteArray} {i : Nat} (h1 : ((i : Nat) : Int).toNat < s.size) : ((s[((i : Nat) : Int).toNat]'h1).toNat : Int) = (((sby s).getD i 0 : Nat) : Int) := by
  have h3 : i < s.data.size := by simpa using h1
  have h4 : s[((i : Nat) : Int).toNat]'h1 = s.data[i]'h3 := rfl
  rw [h4, List.getD_eq_getElem?_getD]
  unfold sby
  rw [List.getElem?_map, Array.getElem?_toList, Array.getElem?_eq_getElem h3]
  rfl
def figU (up : Bool) (d : Nat) : Nat := bif up then upN (fig d) else fig d
theorem ZlE (d : Nat) (hd : d < 36) (up : Bool) : PC C Zkn [.int .i64 (d : Int), .bool up] (fun o => o = .ret (.int .u8 ((figU up d : Nat) : Int))) := by
  refine PC.rn Zer Zjc Zjd (rs := [.tmp 4]) (by rw [Zje]) ?_
  refine ARun.seq (ARun.region ?_); refine xa ?_; refine AOps.nil (ARun.seq (ARun.seq (ARun.region ?_))); refine xm ?_; refine xi ?_; refine AOps.nil ?_
  refine ARun.ite rfl (fun h => ?_) (fun h => ?_)
  · skip
    have h : d < 10 := by omega
    have e : figU up d = 48 + d := by
      unfold figU fig
      rw [if_pos h]
      cases up
      · rfl
      show upN (48 + d) = 48 + d
      unfold upN; rw [if_neg (by omega)]
    refine ARun.seq (ARun.region ?_); refine xm ?_
    refine y_op rfl (q_add rfl rfl (nadd_i64 (m := 48) (by omega))) ?_
    refine y_op rfl (q_conv rfl rfl rfl (show _ = ((48 + d : Nat) : Int) by rw [IntKind.wrap_u8]; omega)) ?_
    refine xa ?_; refine AOps.nil ?_
    refine ARun.ret ?_
    refine ⟨_, _, _, .tmp rfl .nil, .cons (.same _) .nil, rfl, ?_⟩
    rw [e]; rfl
  have h : ¬ d < 10 := by omega
  refine ARun.skip (ARun.seq (ARun.seq (ARun.region ?_))); refine xm ?_; refine AOps.nil ?_
  refine ARun.cond rfl (fun h2 => ?_) (fun h2 => ?_)
  · skip
    obtain rfl : up = true := h2
    have e : figU true d = 55 + d := by
      show upN (fig d) = _
      unfold fig upN
      rw [if_neg h, if_pos (by omega)]; omega
    refine ARun.seq (ARun.region ?_); refine xm ?_
    refine y_op rfl (q_add rfl rfl (nadd_i64 (m := 65) (by omega))) ?_
    refine y_op rfl (q_sub rfl rfl (nsub_i64 (n := 10) (by omega) (by omega))) ?_
    refine y_op rfl (q_conv rfl rfl rfl (show _ = ((55 + d : Nat) : Int) by rw [IntKind.wrap_u8]; omega)) ?_
    refine xa ?_; refine AOps.nil ?_
    refine ARun.ret ?_
    refine ⟨_, _, _, .tmp rfl .nil, .cons (.same _) .nil, rfl, ?_⟩
    rw [e]; rfl
  obtain rfl : up = false := h2
  have e : figU false d = 87 + d := by
    show fig d = _
    unfold fig
    rw [if_neg h]
  refine ARun.skip (ARun.seq (ARun.region ?_)); refine xm ?_
  refine y_op rfl (q_add rfl rfl (nadd_i64 (m := 97) (by omega))) ?_
  refine y_op rfl (q_sub rfl rfl (nsub_i64 (n := 10) (by omega) (by omega))) ?_
  refine y_op rfl (q_conv rfl rfl rfl (show _ = ((87 + d : Nat) : Int) by rw [IntKind.wrap_u8]; omega)) ?_
  refine xa ?_; refine AOps.nil ?_
  refine ARun.ret ?_
  refine ⟨_, _, _, .tmp rfl .nil, .cons (.same _) .nil, rfl, ?_⟩
  rw [e]; rfl
def nmV (b : Nat) (acc : Nat) (l : List Nat) : Nat := l.foldl (fun a c => if digV c < b then a * b + digV c else a) acc
theorem nmV_lt {b : Nat} (hb0 : 0 < b) (hb : b ≤ 36) (l : List Nat) : nmV b 0 l < B ^ l.length := by
  have key : ∀ (l : List Nat) (acc k : Nat), acc < B ^ k → nmV b acc l < B ^ (k + l.length) := by
    intro l
    induction l with
    | nil => intro acc k h; exact h
    | cons c l ih =>
      intro acc k h
      have hs : B ^ (k + 1) = B ^ k * 4294967296 := Nat.pow_succ ..
      have := ih (if digV c < b then acc * b + digV c else acc) (k + 1) (by
        split
        · rename_i hd
          have h1 : (acc + 1) * b ≤ B ^ k * 4294967296 := Nat.mul_le_mul h (by omega)
          rw [Nat.add_mul, Nat.one_mul] at h1
          omega
        omega)
      rw [List.length_cons, show k + (l.length + 1) = k + 1 + l.length by omega]
      exact this
  have := key l 0 0 (by rw [Nat.pow_zero]; decide)
  rwa [Nat.zero_add] at this
theorem nmV_snoc (b acc : Nat) (l : List Nat) (c : Nat) : nmV b acc (l ++ [c]) = if digV c < b then nmV b acc l * b + digV c else nmV b acc l := by
  unfold nmV; rw [List.foldl_append]; rfl
theorem lim_dig1 {b : Nat} (h0 : 0 < b) (h : b < B) : lim b = [b] := by
  rw [lim_pos (by omega), Nat.mod_eq_of_lt h, Nat.div_eq_of_lt h, lim_zero]
theorem numD_dig1 {b : Nat} (h0 : 0 < b) (h : b < B) : D.sl 1 [.int .u32 (b : Int)] = numD b := by rw [numD, lim_dig1 h0 h]; rfl
theorem nmV_ln {b : Nat} (hb0 : 0 < b) (hb : b ≤ 36) (l : List Nat) : (lim (nmV b 0 l)).length ≤ l.length := ln_le (nmV_lt hb0 hb l)
theorem ZlF (s : ByteArray) (hs : s.size ≤ 20000) (b : Nat) (hb0 : 2 ≤ b) (hb : b ≤ 36) : PC C Zj8 [.str s, .int .i64 (b : Int)] (fun o => o = .ret (numD (nmV b 0 (sby s)))) := by
  have hL := sby_len s
  refine PC.rn Zek Zi0 Zi1 (rs := [.tmp 4]) (by rw [Zi2]) ?_
  refine ARun.seq (ARun.region ?_); refine xa ?_; refine AOps.nil (ARun.seq (ARun.region ?_)); refine xa ?_; refine AOps.nil (ARun.seq (ARun.seq (ARun.region ?_))); refine xa ?_; refine AOps.nil (ARun.block ?_)
  refine ARun.nil0 5 rfl ?_
  rw [← numD_zero, show numD 0 = numD (nmV b 0 ((sby s).take 0)) from rfl]
  refine ARun.loopI (S := Nat) (fun i : Nat => [(7, .any), (8, .any), (9, .any), (10, .any), (11, .any), (12, .any), (13, .any), (14, .any), (15, .any), (16, .any), (17, .any), (18, .any), (19, .any), (20, .any), (21, .any), (22, .any), (23, .any), (24, .any), (25, .any), (26, .any), (27, .any), (28, .any), (29, .any), (5, numD (nmV b 0 ((sby s).take i))), (6, .int .i64 (i : Int))]) (fun i : Nat => []) (fun i : Nat => i ≤ s.size) (fun i : Nat => s.size - i) (0) ?_ ?_ ?_ ?_
  · exact Nat.zero_le _
  · (repeat' first | exact envLe_nil | apply envLe_any | apply envLe_same)
  · rfl
  rintro i hinv ih
  have hln := nmV_ln (b := b) (by omega) hb ((sby s).take i)
  rw [List.length_take] at hln
  refine ARun.seq (ARun.seq (ARun.region ?_)); refine xm ?_; refine xm ?_
  refine y_op rfl (Zan rfl rfl) ?_
  refine xi ?_; refine AOps.nil ?_
  refine ARun.ite rfl (fun h => ?_) (fun h => ?_)
  · skip
    have hi : i < s.size := by omega
    have hc := sby_lt (s := s) i
    have hsn : nmV b 0 ((sby s).take (i + 1)) = if digV ((sby s).getD i 0) < b then nmV b 0 ((sby s).take i) * b + digV ((sby s).getD i 0) else nmV b 0 ((sby s).take i) := by
      rw [take_getD (by omega), nmV_snoc]
    have hdv := digV_lt ((sby s).getD i 0)
    refine ARun.skip (ARun.seq (ARun.block (ARun.seq (ARun.region ?_)))); refine xm ?_; refine xm ?_
    refine y_op rfl (Zak rfl rfl rfl (by omega) (by omega) (sby_get _)) ?_
    refine xm ?_
    refine xc rfl rfl (Zb5 ((sby s).getD i 0) hc b hb) ?_
    refine AOps.nil ?_
    refine ARun.cond rfl (fun g => ?_) (fun g => ?_)
    · skip
      have g : digV ((sby s).getD i 0) < b := of_decide_eq_true g
      rw [if_pos g] at hsn
      refine ARun.drawnP 12 (fun _ => False) mixC rfl rfl (by kernel_rfl) (fun _ _ h => h.elim) ?_
      refine .op rfl (q_move rfl) ?_
      refine .op rfl (q_move rfl) ?_
      refine .op rfl (q_conv rfl rfl rfl (show _ = (b : Int) by rw [IntKind.wrap_u32]; omega)) ?_
      refine .op rfl (OpQ.cast (ZaB rfl rfl rfl rfl rfl rfl rfl rfl rfl rfl rfl (by decide) (by decide) rfl) (numD_dig1 (b := b) (by omega) (by rw [B_eq]; omega))) ?_
      refine .op rfl (q_call rfl rfl (Zn0 (nmV b 0 ((sby s).take i)) b (by omega) (by rw [lim_dig1 (by omega) (by rw [B_eq]; omega)]; show 1 ≤ _; decide))) ?_
      refine .op rfl (q_move rfl) ?_
      refine .op rfl (q_move rfl) ?_
      refine .op rfl (Zak rfl rfl rfl (by omega) (by omega) (sby_get _)) ?_
      refine .op rfl (q_call rfl rfl (Ze9 ((sby s).getD i 0) hc)) ?_
      refine .op rfl (q_conv rfl rfl rfl (show _ = ((digV ((sby s).getD i 0) : Nat) : Int) by rw [if_neg (by omega), IntKind.wrap_u64]; omega)) ?_
      refine .op rfl (q_call rfl rfl (Zju (digV ((sby s).getD i 0)) (by omega))) ?_
      refine .op rfl (q_call rfl rfl (ZlV (nmV b 0 ((sby s).take i) * b) (digV ((sby s).getD i 0)) (by have := ln_mul (nmV b 0 ((sby s).take i)) b; rw [lim_dig1 (b := b) (by omega) (by rw [B_eq]; omega)] at this; have h1 : [b].length = 1 := rfl; omega) (by have := ln_mono (show digV ((sby s).getD i 0) ≤ 36 by omega); rw [lim_dig1 (b := 36) (by decide) (by decide)] at this; have h1 : [36].length = 1 := rfl; omega))) ?_
      refine .nil (fun hG => ?_)
      refine xa ?_; refine AOps.nil (ARun.inBlock (ARun.region ?_)); refine xm ?_
      refine y_op rfl (q_add rfl rfl (nadd1_i64 (by omega))) ?_
      refine xa ?_; refine AOps.nil ?_
      rw [← hsn]
      refine ARun.again (ih (i + 1) ?_ ?_) ?_ ?_
      · exact hi
      · omega
      · (repeat' first | exact envLe_nil | apply envLe_any | apply envLe_same)
      rfl
    have g : ¬ digV ((sby s).getD i 0) < b := of_decide_eq_false g
    rw [if_neg g] at hsn
    refine ARun.skip (ARun.inBlock (ARun.region ?_)); refine xm ?_
    refine y_op rfl (q_add rfl rfl (nadd1_i64 (by omega))) ?_
    refine xa ?_; refine AOps.nil ?_
    rw [← hsn]
    refine ARun.again (ih (i + 1) ?_ ?_) ?_ ?_
    · exact hi
    · omega
    · (repeat' first | exact envLe_nil | apply envLe_any | apply envLe_same)
    rfl
  have hi : i = s.size := by omega
  rw [hi, ← hL, List.take_length]
  refine ARun.exit rfl ?_
  refine ARun.seq (ARun.region ?_); refine xm ?_; refine xa ?_; refine AOps.nil ?_
  refine ARun.ret ?_
  refine ⟨_, _, _, .tmp rfl .nil, .cons (.same _) .nil, rfl, ?_⟩
  rfl
end Go.V
/- strings.IndexByte: the library's contract, laid at this seat's numbers. -/
set_option maxRecDepth 100000
set_option maxHeartbeats 1000000
namespace Go.V
open Go.Shelf Go.RowKit Go.Proofs
def bRen217 : Ren := ⟨fun | 217 => 232 | 266 => 247 | n => n, fun | 3 => 3 | 5 => 5 | 9 => 9 | n => n, fun n => n⟩
theorem bLay217 : Lays.n217 Tryz.prog bRen217 := {
  mixed := by kernel_rfl
  f217 := Tryz.func232.trans (congrArg some (by kernel_rfl))
  f266 := Tryz.func247.trans (congrArg some (by kernel_rfl))
  t3 := Tryz.underlying3
  a3 := Tryz.isAgg3
  z3 := Tryz.sizeOf3
  v3 := Tryz.zeroValue3
  t5 := Tryz.underlying5
  a5 := Tryz.isAgg5
  z5 := Tryz.sizeOf5
  v5 := Tryz.zeroValue5
  t9 := Tryz.underlying9
  a9 := Tryz.isAgg9
  z9 := Tryz.sizeOf9
  v9 := Tryz.zeroValue9 }
theorem below_same (w : World) : Below w.heap.size w w := by
  refine ⟨?_, ?_, ?_, ?_, ?_⟩
  all_goals first | rfl | exact Nat.le_refl _ | (intros; rfl) | (intros; assumption)
theorem Zhh (s : ByteArray) (c : Int) : PC C Zcr [.str s, .int .u8 c] (fun o => o = .ret (.int .i64 (Lib.indexByte s.data.toList c.toNat.toUInt8))) := by
  refine PC.of_below (v := .int .i64 (Lib.indexByte s.data.toList c.toNat.toUInt8)) Zcd (fun _ _ _ _ => by simp only [VR]) (fun w L μ H vs ha => ?_)
  simp only [VRs, VR] at ha
  obtain ⟨_, _, rfl, rfl, _, _, rfl, rfl, rfl⟩ := ha
  exact (Any.stringslite_IndexByte bLay217 s c w).mono fun e w' ⟨h1, h2⟩ => ⟨h1, by rw [h2]; exact below_same w⟩
end Go.V
set_option maxHeartbeats 4000000
set_option maxRecDepth 100000
set_option synthInstance.maxSize 100000
set_option synthInstance.maxHeartbeats 2000000
namespace Go.V
open Go.RowKit Go.Proofs
theorem ixB_nn : ∀ (l : List UInt8) (c : UInt8), Lib.indexByte l c ≥ 0 ↔ c ∈ l
  | [], c => by simp [Lib.indexByte]
  | b :: l, c => by
    have ih := ixB_nn l c
    unfold Lib.indexByte
    by_cases h : b = c
    · subst h; simp
    have h1 : (b == c) = false := beq_eq_false_iff_ne.2 h
    rw [h1]
    simp only [Bool.false_eq_true, if_false, List.mem_cons]
    have hne : ¬ c = b := fun e => h e.symm
    simp only [hne, false_or]
    by_cases h2 : (Lib.indexByte l c == -1) = true
    · rw [if_pos h2]
      have := eq_of_beq h2
      rw [← ih]; omega
    rw [if_neg h2]
    have h3 : ¬ Lib.indexByte l c = -1 := fun e => h2 (by rw [e]; rfl)
    rw [← ih]
    have h4 : -1 ≤ Lib.indexByte l c := by
      clear ih h2 h3
      induction l with
      | nil => unfold Lib.indexByte; omega
      | cons d l ih => unfold Lib.indexByte; split; omega; split; omega; omega
    omega
theorem ZkW (s : ByteArray) (c : Int) : PC C ZdV [.str s, .int .u8 c] (fun o => o = .ret (.int .i64 (Lib.indexByte s.data.toList c.toNat.toUInt8))) := by
  refine PC.rn ZbE Zdt Zdu (rs := [.tmp 4]) (by rw [Zdv]) ?_
  refine ARun.seq (ARun.region ?_); refine xa ?_; refine AOps.nil (ARun.seq (ARun.region ?_)); refine xm ?_; refine xm ?_
  refine xc rfl rfl (Zhh s c) ?_
  refine xa ?_; refine AOps.nil ?_
  refine ARun.ret ?_
  refine ⟨_, _, _, .tmp rfl .nil, .cons (.same _) .nil, rfl, ?_⟩
  rfl
abbrev rdO (s : ByteArray) (i : Int) : Option AObj := some ⟨[.str s, .int .i64 i], Zhk, 1, true, none⟩
def isAt (s : ByteArray) (i : Nat) (some' : ByteArray) : Bool := decide (i < s.size) && decide (UInt8.ofNat ((sby s).getD i 0) ∈ some'.data.toList)
theorem Zhi (H : Heap) (k : Nat) (s : ByteArray) (i : Int) (hk : H[k]? = some (rdO s i)) : HC C ZdW H [.ptr k 0] (fun x H' => x = .pan (wrongW i) ∧ H' = H) := by
  refine HC.run ZbF Zdw rfl Zdx (rs := []) (by rw [Zdy]) (by simp only [List.length_cons, List.length_nil, Nat.reduceAdd, Nat.reduceSub, List.replicate_succ, List.replicate_zero, List.cons_append, List.nil_append]; exact rfl) ?_
  refine ARun.region ?_; refine xm ?_
  refine y_op rfl (q_nil rfl rfl) ?_
  refine y_op rfl (q_fldP rfl rfl rfl (by decide)) ?_
  refine y_op rfl (Zac rfl rfl rfl hk rfl) ?_
  refine y_op rfl (Zal rfl rfl rfl rfl rfl) ?_
  refine y_op rfl (Zhe rfl rfl rfl) ?_
  exact Zlu rfl rfl ⟨_, _, .same _, rfl, rfl⟩
theorem hc_end (H : Heap) (k : Nat) (s : ByteArray) (i : Nat) (hk : H[k]? = some (rdO s i)) : HC C Zej H [.ptr k 0] (fun x H' => H' = H ∧ ((s.size ≤ i ∧ x = .ret (.tup [])) ∨ (i < s.size ∧ x = .pan (wrongW i)))) := by
  refine HC.run ZbP ZdR rfl ZdS (rs := []) (by rw [ZdT]) (by simp only [List.length_cons, List.length_nil, Nat.reduceAdd, Nat.reduceSub, List.replicate_succ, List.replicate_zero, List.cons_append, List.nil_append]; exact rfl) ?_
  refine ARun.seq ?_
  refine ARun.drawnP 10 (fun _ => False) mixC rfl rfl (by kernel_rfl) (fun _ _ h => h.elim) ?_
  refine .op rfl (q_move rfl) ?_
  refine .op rfl (q_nil rfl rfl) ?_
  refine .op rfl (q_fldP rfl rfl rfl (by decide)) ?_
  refine .op rfl (Zac rfl rfl rfl hk rfl) ?_
  refine .op rfl (q_move rfl) ?_
  refine .op rfl (q_nil rfl rfl) ?_
  refine .op rfl (q_fldP rfl rfl rfl (by decide)) ?_
  refine .op rfl (Zac rfl rfl rfl hk rfl) ?_
  refine .op rfl (Zan rfl rfl) ?_
  refine .op rfl (q_int rfl rfl rfl) ?_
  refine .nil (fun hG => ?_)
  refine AOps.nil ?_
  refine ARun.ite rfl (fun h => ?_) (fun h => ?_)
  · skip
    refine ARun.region ?_; refine xm ?_
    refine Zay rfl rfl rfl rfl (Zhi H k s i hk) (by rintro _ _ ⟨h, _⟩; cases h) (fun q H' hq => by obtain ⟨hq, rfl⟩ := hq; injection hq with hq; subst hq; exact ⟨_, _, .same _, rfl, .inr ⟨by omega, rfl⟩⟩)
  refine ARun.skip ?_
  refine ARun.nil ?_
  exact ⟨_, _, _, .nil, .nil, rfl, .inl ⟨by omega, rfl⟩⟩
theorem ZnA (H : Heap) (k : Nat) (s some' : ByteArray) (i : Nat) (hk : H[k]? = some (rdO s i)) (hi : s.size ≤ 20000) (g : i < s.size) : HC C ZaE H [.ptr k 0, .str some'] (fun x H' => x = .ret (.bool (isAt s i some')) ∧ H' = (bif isAt s i some' then H.set k (rdO s ((i + 1 : Nat) : Int)) else H)) := by
  have hm := ixB_nn some'.data.toList (UInt8.ofNat ((sby s).getD i 0))
  refine HC.run ZaQ ZbB rfl ZbC (rs := [.tmp 4]) (by rw [ZbD]) (by simp only [List.length_cons, List.length_nil, Nat.reduceAdd, Nat.reduceSub, List.replicate_succ, List.replicate_zero, List.cons_append, List.nil_append]; exact rfl) ?_
  refine ARun.seq (ARun.region ?_); refine xa ?_; refine AOps.nil (ARun.seq (ARun.seq ?_))
  refine ARun.drawnP 24 (fun _ => False) mixC rfl rfl (by kernel_rfl) (fun _ _ h => h.elim) ?_
  refine .op rfl (q_move rfl) ?_
  refine .op rfl (q_nil rfl rfl) ?_
  refine .op rfl (q_fldP rfl rfl rfl (by decide)) ?_
  refine .op rfl (Zac rfl rfl rfl hk rfl) ?_
  refine .op rfl (q_move rfl) ?_
  refine .op rfl (q_nil rfl rfl) ?_
  refine .op rfl (q_fldP rfl rfl rfl (by decide)) ?_
  refine .op rfl (Zac rfl rfl rfl hk rfl) ?_
  refine .op rfl (Zan rfl rfl) ?_
  refine .op rfl (OpQ.cast (d' := .bool true) (q_int rfl rfl rfl) (by rw [decide_eq_true (by omega)])) ?_
  refine .op rfl (q_move rfl) ?_
  refine .op rfl (q_move rfl) ?_
  refine .op rfl (q_move rfl) ?_
  refine .op rfl (q_nil rfl rfl) ?_
  refine .op rfl (q_fldP rfl rfl rfl (by decide)) ?_
  refine .op rfl (Zac rfl rfl rfl hk rfl) ?_
  refine .op rfl (q_move rfl) ?_
  refine .op rfl (q_nil rfl rfl) ?_
  refine .op rfl (q_fldP rfl rfl rfl (by decide)) ?_
  refine .op rfl (Zac rfl rfl rfl hk rfl) ?_
  refine .op rfl (Zak rfl rfl rfl (by omega) (by omega) (sby_get _)) ?_
  refine .op rfl (q_call rfl rfl (ZkW some' (((sby s).getD i 0 : Nat) : Int))) ?_
  refine .op rfl (q_int rfl rfl rfl) ?_
  refine .op rfl (q_pick rfl rfl rfl rfl) ?_
  refine .nil (fun hG => ?_)
  refine AOps.nil ?_
  refine ARun.ite rfl (fun h => ?_) (fun h => ?_)
  · skip
    have e : isAt s i some' = true := by
      unfold isAt
      rw [decide_eq_true g, decide_eq_true (hm.1 h)]; rfl
    rw [e]
    refine ARun.seq (ARun.region ?_); refine xm ?_
    refine y_op rfl (q_nil rfl rfl) ?_
    refine y_op rfl (q_fldP rfl rfl rfl (by decide)) ?_
    refine y_op rfl (Zac rfl rfl rfl hk rfl) ?_
    refine y_op rfl (q_add rfl rfl (nadd1_i64 (by omega))) ?_
    refine y_op rfl (q_nil rfl rfl) ?_
    refine y_op rfl (q_fldP rfl rfl rfl (by decide)) ?_
    refine y_new rfl (Zad rfl rfl rfl rfl hk rfl (Nat.le_of_ble_eq_true rfl) rfl) ?_
    refine AOps.nil (ARun.seq (ARun.region ?_)); refine xa ?_; refine AOps.nil ?_
    refine ARun.ret ?_
    exact ⟨_, _, _, .tmp rfl .nil, .cons (.same _) .nil, rfl, rfl⟩
  have e : isAt s i some' = false := by
    unfold isAt
    rw [decide_eq_true g, decide_eq_false (fun x => h (hm.2 x))]; rfl
  rw [e]
  refine ARun.skip (ARun.seq (ARun.region ?_)); refine xa ?_; refine AOps.nil ?_
  refine ARun.ret ?_
  exact ⟨_, _, _, .tmp rfl .nil, .cons (.same _) .nil, rfl, rfl⟩
theorem ZnB (H : Heap) (k : Nat) (s some' : ByteArray) (i : Nat) (hk : H[k]? = some (rdO s i)) (g : ¬ i < s.size) : HC C ZaE H [.ptr k 0, .str some'] (fun x H' => x = .ret (.bool (isAt s i some')) ∧ H' = (bif isAt s i some' then H.set k (rdO s ((i + 1 : Nat) : Int)) else H)) := by
  have e : isAt s i some' = false := by
    unfold isAt
    rw [decide_eq_false g]; rfl
  rw [e]
  refine HC.run ZaQ ZbB rfl ZbC (rs := [.tmp 4]) (by rw [ZbD]) (by simp only [List.length_cons, List.length_nil, Nat.reduceAdd, Nat.reduceSub, List.replicate_succ, List.replicate_zero, List.cons_append, List.nil_append]; exact rfl) ?_
  refine ARun.seq (ARun.region ?_); refine xa ?_; refine AOps.nil (ARun.seq (ARun.seq ?_))
  refine ARun.drawnP 24 (fun _ => False) mixC rfl rfl (by kernel_rfl) (fun _ _ h => h.elim) ?_
  refine .op rfl (q_move rfl) ?_
  refine .op rfl (q_nil rfl rfl) ?_
  refine .op rfl (q_fldP rfl rfl rfl (by decide)) ?_
  refine .op rfl (Zac rfl rfl rfl hk rfl) ?_
  refine .op rfl (q_move rfl) ?_
  refine .op rfl (q_nil rfl rfl) ?_
  refine .op rfl (q_fldP rfl rfl rfl (by decide)) ?_
  refine .op rfl (Zac rfl rfl rfl hk rfl) ?_
  refine .op rfl (Zan rfl rfl) ?_
  refine .op rfl (OpQ.cast (d' := .bool false) (q_int rfl rfl rfl) (by rw [decide_eq_false (by omega)])) ?_
  refine .op rfl (q_move rfl) ?_
  refine .skip rfl ?_
  refine .skip rfl ?_
  refine .skip rfl ?_
  refine .skip rfl ?_
  refine .skip rfl ?_
  refine .skip rfl ?_
  refine .skip rfl ?_
  refine .skip rfl ?_
  refine .skip rfl ?_
  refine .skip rfl ?_
  refine .skip rfl ?_
  refine .skip rfl ?_
  refine .op rfl (q_pick rfl rfl rfl rfl) ?_
  refine .nil (fun hG => ?_)
  refine AOps.nil ?_
  refine ARun.condF rfl ?_
  refine ARun.skip (ARun.seq (ARun.region ?_)); refine xa ?_; refine AOps.nil ?_
  refine ARun.ret ?_
  exact ⟨_, _, _, .tmp rfl .nil, .cons (.same _) .nil, rfl, rfl⟩
theorem ZnC (H : Heap) (k : Nat) (s some' : ByteArray) (i : Nat) (hk : H[k]? = some (rdO s i)) (hi : s.size ≤ 20000) : HC C ZaE H [.ptr k 0, .str some'] (fun x H' => x = .ret (.bool (isAt s i some')) ∧ H' = (bif isAt s i some' then H.set k (rdO s ((i + 1 : Nat) : Int)) else H)) :=
  (Decidable.em (i < s.size)).elim (ZnA H k s some' i hk hi) (ZnB H k s some' i hk)
end Go.V
set_option maxHeartbeats 4000000
set_option maxRecDepth 100000
set_option synthInstance.maxSize 100000
set_option synthInstance.maxHeartbeats 2000000
namespace Go.V
open Go.RowKit Go.Proofs
theorem set_same {H : Heap} {k : Nat} {v : Option AObj} (h : H[k]? = some v) : H.set k v = H := by
  have kl := (List.getElem?_eq_some_iff.1 h).1
  apply List.ext_getElem?
  intro j
  by_cases e : k = j
  · subst e; rw [List.getElem?_set_self kl, h]
  rw [List.getElem?_set_ne e]
theorem rd_get {H J : Heap} {k : Nat} {s : ByteArray} {i j : Int} (hk : H[k]? = some (rdO s i)) : (H.set k (rdO s j) ++ J)[k]? = some (rdO s j) := by
  have kl := (List.getElem?_eq_some_iff.1 hk).1
  rw [List.getElem?_append_left (by rw [List.length_set]; exact kl), List.getElem?_set_self kl]
theorem rd_set {H J : Heap} {k : Nat} {s : ByteArray} {i j j' : Int} (hk : H[k]? = some (rdO s i)) : (H.set k (rdO s j) ++ J).set k (rdO s j') = H.set k (rdO s j') ++ J := by
  have kl := (List.getElem?_eq_some_iff.1 hk).1
  rw [List.set_append_left _ _ (by rw [List.length_set]; exact kl), List.set_set]
end Go.V
set_option maxHeartbeats 4000000
set_option maxRecDepth 100000
set_option synthInstance.maxSize 100000
set_option synthInstance.maxHeartbeats 2000000
namespace Go.V
open Go.RowKit Go.Proofs
def nv (b : Nat) (l : List Nat) : Nat := l.foldl (fun a d => a * b + d) 0
theorem nv_from (b : Nat) : ∀ (l : List Nat) (a : Nat), l.foldl (fun a d => a * b + d) a = a * b ^ l.length + nv b l
  | [], a => by simp [nv]
  | d :: l, a => by
    unfold nv
    rw [List.foldl_cons, List.foldl_cons, nv_from b l, nv_from b l (0 * b + d), List.length_cons, Nat.pow_succ, Nat.zero_mul, Nat.zero_add, Nat.add_mul, Nat.mul_assoc, Nat.mul_comm b, Nat.add_assoc]
theorem nv_app (b : Nat) (l k : List Nat) : nv b (l ++ k) = nv b l * b ^ k.length + nv b k := by
  show (l ++ k).foldl _ 0 = _
  rw [List.foldl_append, nv_from]; rfl
theorem nv_snoc (b : Nat) (l : List Nat) (d : Nat) : nv b (l ++ [d]) = nv b l * b + d := by
  unfold nv; rw [List.foldl_append]; rfl
theorem nv_lt {b : Nat} (l : List Nat) (h : ∀ d ∈ l, d < b) : nv b l < b ^ l.length := by
  induction l with
  | nil => simp [nv]
  | cons d l ih =>
    have h1 := ih (fun x hx => h x (List.mem_cons_of_mem _ hx))
    have h2 := h d (List.mem_cons_self ..)
    have e : nv b (d :: l) = d * b ^ l.length + nv b l := by
      have := nv_app b [d] l
      rw [List.singleton_append] at this
      rw [this]; simp [nv]
    rw [e, List.length_cons, Nat.pow_succ, Nat.mul_comm (b ^ l.length) b]
    have h3 : (d + 1) * b ^ l.length ≤ b * b ^ l.length := Nat.mul_le_mul_right _ h2
    rw [Nat.add_mul, Nat.one_mul] at h3
    omega
theorem nv_take_le {b : Nat} (h : 1 ≤ b) (l : List Nat) (k : Nat) : nv b (l.take k) ≤ nv b l := by
  have h1 := nv_app b (l.take k) (l.drop k)
  rw [List.take_append_drop] at h1
  have h2 : 1 ≤ b ^ (l.drop k).length := Nat.pow_pos h
  have h3 := Nat.mul_le_mul_left (nv b (l.take k)) h2
  omega
theorem must_mulN {a b : Nat} (ha : (lim a).length ≤ 1024) (hb : (lim b).length ≤ 1024) : PC C ZaC [numD (resN (lim a) (lim b) (.inl (val (lim a) * val (lim b)))).1, .int .i64 (resN (lim a) (lim b) (.inl (val (lim a) * val (lim b)))).2] (fun o => ((lim (a * b)).length ≤ 1024 ∧ o = .ret (numD (a * b))) ∨ ∃ p, (¬ (lim (a * b)).length ≤ 1024 ∧ p = failW 2) ∧ o = .pan p) := by
  rw [val_lim, val_lim]; exact must_add ha hb
theorem must_addN {a b : Nat} (ha : (lim a).length ≤ 1024) (hb : (lim b).length ≤ 1024) : PC C ZaC [numD (resN (lim a) (lim b) (.inl (val (lim a) + val (lim b)))).1, .int .i64 (resN (lim a) (lim b) (.inl (val (lim a) + val (lim b)))).2] (fun o => ((lim (a + b)).length ≤ 1024 ∧ o = .ret (numD (a + b))) ∨ ∃ p, (¬ (lim (a + b)).length ≤ 1024 ∧ p = failW 2) ∧ o = .pan p) := by
  rw [val_lim, val_lim]; exact must_add ha hb
theorem ZlG (l : List Nat) (hl : l.length ≤ 20000) (b : Nat) (hb2 : 2 ≤ b) (hb36 : b ≤ 36) (hd : ∀ d ∈ l, d < b) : PC C ZdI [sln .i64 l, .int .i64 (b : Int)] (fun o => ((lim (nv b l)).length ≤ 1024 ∧ o = .ret (numD (nv b l))) ∨ (¬ (lim (nv b l)).length ≤ 1024 ∧ o = .pan (failW 2))) := by
  obtain ⟨m, hm0, hm1, hm2⟩ := chk_ex b hb2 (by omega)
  have hm32 : m < 32 := by
    rcases Nat.lt_or_ge m 32 with h3 | h3
    · exact h3
    exfalso
    have h4 := Nat.pow_le_pow_left hb2 m
    have h5 := Nat.pow_le_pow_right (n := 2) (by decide) h3
    omega
  refine PC.rn Zda ZgK ZgL (rs := [.tmp 4]) (by rw [ZgM]) ?_
  refine ARun.seq (ARun.region ?_); refine xa ?_; refine AOps.nil (ARun.seq (ARun.region ?_)); refine xm ?_
  refine xc rfl rfl (Ziq b m hb2 hb36 hm0 hm1 hm2) ?_
  refine xm ?_; refine xe ?_; refine xe ?_; refine xa ?_; refine xa ?_; refine AOps.nil (ARun.seq (ARun.region ?_)); refine xa ?_; refine AOps.nil (ARun.seq (ARun.block ?_))
  refine ARun.nil0 7 rfl ?_
  rw [← numD_zero, show numD 0 = numD (nv b (l.take 0)) from rfl]
  refine ARun.loopI (S := Nat) (fun j : Nat => [(8, .any), (9, .any), (10, .any), (12, .any), (18, .any), (19, .any), (20, .any), (21, .any), (22, .any), (23, .any), (24, .any), (25, .any), (26, .any), (27, .any), (28, .any), (29, .any), (30, .any), (31, .any), (32, .any), (33, .any), (34, .any), (35, .any), (36, .any), (37, .any), (38, .any), (39, .any), (40, .any), (41, .any), (42, .any), (43, .any), (44, .any), (45, .any), (46, .any), (47, .any), (48, .any), (49, .any), (50, .any), (51, .any), (52, .any), (53, .any), (54, .any), (55, .any), (56, .any), (57, .any), (58, .any), (59, .any), (60, .any), (61, .any), (62, .any), (63, .any), (0, sln .i64 (l.drop j)), (7, numD (nv b (l.take j)))]) (fun j : Nat => []) (fun j : Nat => j ≤ l.length ∧ (lim (nv b (l.take j))).length ≤ 1024) (fun j : Nat => l.length - j) (0) ?_ ?_ ?_ ?_
  · exact ⟨Nat.zero_le _, by show (lim 0).length ≤ 1024; rw [lim_zero]; decide⟩
  · (repeat' first | exact envLe_nil | apply envLe_any | apply envLe_same)
  · rfl
  rintro j hinv ih
  obtain ⟨hj, hf⟩ := hinv
  have hdl : (l.drop j).length = l.length - j := List.length_drop
  refine ARun.seq (ARun.seq (ARun.region ?_)); refine xm ?_; refine xN ?_; refine xi ?_; refine AOps.nil ?_
  refine ARun.ite rfl (fun h => ?_) (fun h => ?_)
  · skip
    have hjl : j < l.length := by omega
    refine ARun.skip (ARun.block (ARun.seq (ARun.region ?_))); refine xm ?_; refine xN ?_; refine xm ?_
    refine y_op rfl (q_rem (r := (((l.drop j).length % m : Nat) : Int)) rfl rfl (by omega) rfl) ?_
    refine xa ?_; refine AOps.nil (ARun.seq (ARun.seq (ARun.region ?_))); refine xm ?_; refine xi ?_; refine AOps.nil ?_
    refine ARun.join (S := Nat) (fun n : Nat => [(27, .any), (8, .int .i64 (n : Int))]) (fun n : Nat => 1 ≤ n ∧ n ≤ m ∧ n ≤ l.length - j) (fun run => ?_) ?_
    · skip
      have hmod := Nat.mod_lt (l.drop j).length hm0
      have hmle := Nat.mod_le (l.drop j).length m
      refine ARun.ite rfl (fun h3 => ?_) (fun h3 => ?_)
      · skip
        have h3' : (l.drop j).length % m = 0 := by omega
        have hmd : m ≤ (l.drop j).length := Nat.le_of_dvd (by omega) (Nat.dvd_of_mod_eq_zero h3')
        refine ARun.region ?_; refine xm ?_; refine xa ?_; refine AOps.nil ?_
        exact ARun.ag (run (m) (⟨by omega, by omega, by omega⟩))
      refine ARun.skip ?_
      exact ARun.ag (run ((l.drop j).length % m) (⟨by omega, by omega, by omega⟩))
    rintro n hj
    try dsimp only at hj ⊢
    obtain ⟨n1, n2, n3⟩ := hj
    have ihO := ih
    have hdd : ∀ d ∈ l.drop j, d < b := fun d hx => hd d (List.mem_of_mem_drop hx)
    have hle : ∀ i, i ≤ n → nv b ((l.drop j).take i) < b ^ i ∧ b ^ i < 4294967296 := fun i hi => by
      have h5 := nv_lt (b := b) ((l.drop j).take i) (fun d hx => hdd d (List.mem_of_mem_take hx))
      rw [List.length_take, Nat.min_eq_left (by omega)] at h5
      exact ⟨h5, Nat.lt_of_le_of_lt (Nat.pow_le_pow_right (by omega) (by omega)) hm1⟩
    refine ARun.seq (ARun.region ?_); refine xa ?_; refine xa ?_; refine AOps.nil (ARun.seq (ARun.seq (ARun.region ?_))); refine xm ?_; refine xm ?_
    refine y_op rfl (Zcs (m := n) (ds := nts .i64 ((l.drop j).take n)) rfl rfl rfl rfl rfl (bnd_nat rfl rfl) (by omega) (by omega) (by simp) (by simp) (by rw [nts_slice]; simp)) ?_
    refine xN ?_; refine xm ?_; refine AOps.nil (ARun.block ?_)
    refine ARun.loopI (S := Nat) (fun i : Nat => [(12, .any), (33, .any), (34, .any), (35, .any), (36, .any), (37, .any), (38, .any), (39, .any), (40, .any), (41, .any), (42, .any), (43, .any), (44, .any), (45, .any), (46, .any), (47, .any), (9, .int .u64 ((nv b ((l.drop j).take i) : Nat) : Int)), (10, .int .u64 ((b ^ i : Nat) : Int)), (32, .int .i64 (i : Int))]) (fun i : Nat => []) (fun i : Nat => i ≤ n) (fun i : Nat => n - i) (0) ?_ ?_ ?_ ?_
    · exact Nat.zero_le _
    · (repeat' first | exact envLe_nil | apply envLe_any | apply envLe_same)
    · rfl
    rintro i hinv ih
    obtain ⟨p1, p2⟩ := hle i hinv
    refine ARun.seq (ARun.region ?_); refine xi ?_; refine AOps.nil (ARun.seq ?_)
    refine ARun.ite rfl (fun h4 => ?_) (fun h4 => ?_)
    · skip
      have hi : i < n := by omega
      have htl : ((l.drop j).take n).length = n := by rw [List.length_take]; omega
      have hdv : ((l.drop j).take n).getD i 0 = (l.drop j).getD i 0 := getD_take hi
      have hdb : (l.drop j).getD i 0 < b := by
        rw [List.getD_eq_getElem?_getD, List.getElem?_eq_getElem (by omega)]
        exact hdd _ (List.getElem_mem _)
      have hPb : nv b ((l.drop j).take i) * b ≤ 4294967296 * 36 := Nat.mul_le_mul (by omega) hb36
      have hSb : b ^ i * b ≤ 4294967296 * 36 := Nat.mul_le_mul (by omega) hb36
      have hs1 : nv b ((l.drop j).take (i + 1)) = nv b ((l.drop j).take i) * b + (l.drop j).getD i 0 := by
        rw [take_getD (by omega), nv_snoc]
      have hs2 : b ^ (i + 1) = b ^ i * b := Nat.pow_succ ..
      refine ARun.skip (ARun.seq (ARun.block (ARun.seq (ARun.region ?_))))
      refine y_op rfl (Zaj (i := i) rfl rfl rfl rfl (by omega) (by omega) (nts_ne (by omega)) (drop_nat rfl)) ?_
      refine y_op rfl (q_load rfl rfl rfl (nts_load (i := i) (by omega))) ?_
      refine xa ?_; refine AOps.nil (ARun.region ?_); refine xm ?_; refine xm ?_
      refine y_op rfl (q_conv rfl rfl rfl (nconv_u64 (by omega))) ?_
      refine y_op rfl (q_mul rfl rfl (show _ = ((nv b ((l.drop j).take i) * b : Nat) : Int) by rw [← Int.natCast_mul, IntKind.wrap_u64]; omega)) ?_
      refine xm ?_
      refine y_op rfl (q_conv rfl rfl rfl (nconv_u64 (by omega))) ?_
      refine y_op rfl (q_add rfl rfl (show _ = ((nv b ((l.drop j).take (i + 1)) : Nat) : Int) by rw [IntKind.wrap_u64, hdv, hs1]; omega)) ?_
      refine xm ?_; refine xm ?_
      refine y_op rfl (q_conv rfl rfl rfl (nconv_u64 (by omega))) ?_
      refine y_op rfl (q_mul rfl rfl (show _ = ((b ^ (i + 1) : Nat) : Int) by rw [← Int.natCast_mul, IntKind.wrap_u64, hs2]; omega)) ?_
      refine xa ?_; refine xa ?_; refine AOps.nil (ARun.inBlock (ARun.region ?_))
      refine y_op rfl (q_add rfl rfl (nadd1_i64 (by omega))) ?_
      refine xm ?_; refine AOps.nil ?_
      refine ARun.again (ih (i + 1) ?_ ?_) ?_ ?_
      · exact hi
      · omega
      · (repeat' first | exact envLe_nil | apply envLe_any | apply envLe_same)
      rfl
    obtain rfl : i = n := by omega
    have hsum : nv b (l.take (j + i)) = nv b (l.take j) * b ^ i + nv b ((l.drop j).take i) := by
      have h6 := nv_app b (l.take j) ((l.drop j).take i)
      rw [← List.take_add, List.length_take, Nat.min_eq_left (by omega)] at h6
      exact h6
    have hall := nv_take_le (b := b) (by omega) l (j + i)
    have hfs : (lim (b ^ i)).length ≤ 1024 := Nat.le_trans (ln_le (k := 1) (by rw [Nat.pow_one, B_eq]; exact p2)) (by decide)
    have hfp : (lim (nv b ((l.drop j).take i))).length ≤ 1024 := Nat.le_trans (ln_le (k := 1) (by rw [Nat.pow_one, B_eq]; omega)) (by decide)
    refine ARun.exit rfl ?_
    refine ARun.seq (ARun.region ?_); refine xm ?_; refine xm ?_
    refine xc rfl rfl (Zbd (b ^ i) (by omega)) ?_
    refine xc rfl rfl (Zin (lim (nv b (l.take j))) (lim (b ^ i)) (U32_lim _) (U32_lim _)) ?_
    refine xe ?_; refine xe ?_
    refine y_gop rfl (g_call rfl rfl (must_mulN hf hfs)) (fun hg => ?_) (fun q hq => by obtain ⟨hq, rfl⟩ := hq; exact ⟨_, _, .same _, rfl, .inr ⟨fun hx => hq (Nat.le_trans (ln_mono (by omega)) hx), rfl⟩⟩)
    refine xm ?_
    refine xc rfl rfl (Zbd (nv b ((l.drop j).take i)) (by omega)) ?_
    refine xc rfl rfl (Zim (lim (nv b (l.take j) * b ^ i)) (lim (nv b ((l.drop j).take i))) (U32_lim _) (U32_lim _)) ?_
    refine xe ?_; refine xe ?_
    refine y_gop rfl (g_call rfl rfl (must_addN hg hfp)) (fun hg2 => ?_) (fun q hq => by obtain ⟨hq, rfl⟩ := hq; exact ⟨_, _, .same _, rfl, .inr ⟨fun hx => hq (Nat.le_trans (ln_mono (by omega)) hx), rfl⟩⟩)
    rw [← hsum] at hg2 ⊢
    refine xa ?_; refine AOps.nil (ARun.region ?_); refine xm ?_; refine xm ?_
    refine y_op rfl (Zcs (m := (l.drop (j + i)).length) (ds := nts .i64 (l.drop (j + i))) rfl rfl rfl rfl (bnd_nat rfl rfl) rfl (by omega) (by omega) (by simp) (by simp; omega) (by rw [nts_slice, List.take_of_length_le (Nat.le_refl _), List.drop_drop])) ?_
    refine xa ?_; refine AOps.nil (ARun.inBlock ?_)
    refine ARun.again (ihO (j + i) ?_ ?_) ?_ ?_
    · exact ⟨by omega, hg2⟩
    · omega
    · (repeat' first | exact envLe_nil | apply envLe_any | apply envLe_same)
    rfl
  obtain rfl : j = l.length := by omega
  rw [List.take_length] at hf ⊢
  refine ARun.exit rfl ?_
  refine ARun.seq (ARun.region ?_); refine xm ?_; refine xa ?_; refine AOps.nil ?_
  refine ARun.ret ?_
  refine ⟨_, _, _, .tmp rfl .nil, .cons (.same _) .nil, rfl, ?_⟩
  exact .inl ⟨hf, rfl⟩
end Go.V
set_option maxHeartbeats 8000000
set_option maxRecDepth 100000
set_option synthInstance.maxSize 100000
set_option synthInstance.maxHeartbeats 2000000
namespace Go.V
open Go.RowKit Go.Proofs
end Go.V
namespace Go.V
theorem isAt_one {s : ByteArray} {i : Nat} {c : UInt8} : isAt s i ⟨#[c]⟩ = (decide (i < s.size) && decide ((sby s).getD i 0 = c.toNat)) := by
  have hlt := sby_lt (s := s) i
  unfold isAt
  congr 1
  apply decide_eq_decide.2
  show UInt8.ofNat ((sby s).getD i 0) ∈ [c] ↔ _
  rw [List.mem_singleton]
  constructor
  · intro h
    rw [← h, UInt8.toNat_ofNat']
    omega
  intro h
  rw [h]
  apply UInt8.toNat_inj.1
  rw [UInt8.toNat_ofNat']
  have := c.toNat_lt
  omega
end Go.V
namespace Go.V
theorem nv_dgs {b : Nat} (hb : 2 ≤ b) (a : Nat) : nv b (dgs b a).reverse = a := by
  induction a using Nat.strongRecOn with
  | _ a ih =>
    rcases Nat.eq_zero_or_pos a with h0 | h0
    · subst h0; rw [dgs_zero]; rfl
    rw [dgs_pos hb h0, List.reverse_cons, nv_snoc, ih _ (Nat.div_lt_self h0 (by omega))]
    exact Nat.div_add_mod' a b
def digs (b a : Nat) : List Nat := if a = 0 then [0] else (dgs b a).reverse
theorem digs_nv {b : Nat} (hb : 2 ≤ b) (a : Nat) : nv b (digs b a) = a := by
  unfold digs; split
  · rename_i h; subst h; simp [nv]
  exact nv_dgs hb a
theorem digs_lt {b : Nat} (hb : 2 ≤ b) (a : Nat) : ∀ d ∈ digs b a, d < b := by
  unfold digs; split
  · intro d hd; rw [List.mem_singleton] at hd; omega
  intro d hd; exact dgs_lt hb a d (List.mem_reverse.1 hd)
theorem txt_digs (b a : Nat) : txt b a = (digs b a).map fig := by
  unfold txt digs; split
  · rfl
  rw [List.map_reverse]
theorem digV_fig {d : Nat} (h : d < 36) : digV (fig d) = d := by unfold fig digV; (repeat' split) <;> omega
theorem fig_lt {d : Nat} (h : d < 36) : fig d < 256 := by unfold fig; split <;> omega
theorem sby_bytesOf {l : List Nat} (h : ∀ c ∈ l, c < 256) : sby (bytesOf l) = l := by
  unfold sby bytesOf
  simp only [List.map_map]
  conv => rhs; rw [← List.map_id l]
  apply List.map_congr_left
  intro c hc
  show (UInt8.ofNat c).toNat = c
  rw [UInt8.toNat_ofNat']
  have := h c hc
  omega
def b4 (n : Nat) : List Nat := [48 + n / 8 % 2, 48 + n / 4 % 2, 48 + n / 2 % 2, 48 + n % 2]
end Go.V
namespace Go.V
def dqs (b : Nat) : Bool → List Nat → List Nat × Nat × Bool
  | q, [] => ([], 0, !q)
  | q, c :: l => if digV c < b then (digV c :: (dqs b false l).1, (dqs b false l).2.1 + 1, (dqs b false l).2.2)
      else if c = 39 ∧ q = false then ((dqs b true l).1, (dqs b true l).2.1 + 1, (dqs b true l).2.2) else ([], 0, !q)
theorem drop_at {s : ByteArray} {p : Nat} (h : p < s.size) : (sby s).drop p = (sby s).getD p 0 :: (sby s).drop (p + 1) := by
  have hl := sby_len s
  rw [List.drop_eq_getElem_cons (by omega), List.getD_eq_getElem?_getD, List.getElem?_eq_getElem (by omega)]; rfl
theorem drop_end {s : ByteArray} {p : Nat} (h : s.size ≤ p) : (sby s).drop p = [] := List.drop_eq_nil_of_le (by rw [sby_len]; exact h)
theorem dqs_dig {b : Nat} {s : ByteArray} {p : Nat} (q : Bool) (h : p < s.size) (hd : digV ((sby s).getD p 0) < b) :
    dqs b q ((sby s).drop p) = (digV ((sby s).getD p 0) :: (dqs b false ((sby s).drop (p + 1))).1, (dqs b false ((sby s).drop (p + 1))).2.1 + 1, (dqs b false ((sby s).drop (p + 1))).2.2) := by
  rw [drop_at h, dqs, if_pos hd]
theorem dqs_mark {b : Nat} {s : ByteArray} {p : Nat} (h : p < s.size) (hb : b ≤ 36) (hc : (sby s).getD p 0 = 39) :
    dqs b false ((sby s).drop p) = ((dqs b true ((sby s).drop (p + 1))).1, (dqs b true ((sby s).drop (p + 1))).2.1 + 1, (dqs b true ((sby s).drop (p + 1))).2.2) := by
  rw [drop_at h, dqs, if_neg (by rw [hc]; have : digV 39 = 36 := by decide
                                 omega), if_pos ⟨hc, rfl⟩]
theorem dqs_stop {b : Nat} {s : ByteArray} {p : Nat} (q : Bool) (h : p < s.size → ¬ digV ((sby s).getD p 0) < b ∧ (q = false → (sby s).getD p 0 ≠ 39)) :
    dqs b q ((sby s).drop p) = ([], 0, !q) := by
  rcases Nat.lt_or_ge p s.size with g | g
  · obtain ⟨h1, h2⟩ := h g
    rw [drop_at g, dqs, if_neg h1, if_neg (fun h3 => h2 h3.2 h3.1)]
  rw [drop_end g, dqs]
theorem dqs_lt {b : Nat} : ∀ (l : List Nat) (q : Bool), ∀ d ∈ (dqs b q l).1, d < b
  | [], q, d, h => by rw [dqs] at h; cases h
  | c :: l, q, d, h => by
    rw [dqs] at h
    split at h
    · rename_i hd
      rcases List.mem_cons.1 h with rfl | h
      · exact hd
      exact dqs_lt l false d h
    split at h
    · exact dqs_lt l true d h
    cases h
theorem dqs_len {b : Nat} : ∀ (l : List Nat) (q : Bool), (dqs b q l).1.length ≤ (dqs b q l).2.1 ∧ (dqs b q l).2.1 ≤ l.length
  | [], q => by rw [dqs]; exact ⟨Nat.le_refl _, Nat.le_refl _⟩
  | c :: l, q => by
    have h1 := dqs_len (b := b) l false
    have h2 := dqs_len (b := b) l true
    rw [dqs]
    split
    · simp only [List.length_cons]; omega
    split
    · simp only [List.length_cons]; omega
    exact ⟨Nat.le_refl _, Nat.zero_le _⟩
theorem nmV_dqs {b : Nat} (hb : b ≤ 36) : ∀ (l : List Nat) (q : Bool) (a : Nat), nmV b a (l.take (dqs b q l).2.1) = (dqs b q l).1.foldl (fun a d => a * b + d) a
  | [], q, a => by rw [dqs]; rfl
  | c :: l, q, a => by
    have hs : ∀ (k : Nat) (x : Nat) (r : List Nat), nmV b x (c :: r) = nmV b (if digV c < b then x * b + digV c else x) r := fun _ _ _ => rfl
    rw [dqs]
    split
    · rename_i hd
      dsimp only
      rw [List.take_succ_cons, hs 0, if_pos hd, nmV_dqs hb l false, List.foldl_cons]
    rename_i hd
    split
    · dsimp only
      rw [List.take_succ_cons, hs 0, if_neg hd, nmV_dqs hb l true]
    rfl
end Go.V
/- THE LENGTH OF A SLICE THAT GROWS; a statement that ends in one of several ways, with its heap. -/
namespace Go.V
open Go.RowKit
section
variable {C : Ctx} {Q : Post} {k : List Item} {env : List D} {H : Heap} {df : List ADef} {n S b : Nat} {J : Heap} {cs : List D} {F : Heap → Heap} {zv : Value} {x : Operand} {T e e' : TypeId} {dst : Option Tmp} {ty : TypeId} {pos : String} {aft : Array Edge} {gd : Option (Nat × Bool)}
theorem ZnD [g : GrowL H n J e cs F] (hx : evO C env x = some (growD (n + J.length) cs)) (ht : C.ty T = some ⟨.slice e', S, b, zv⟩) : OpQ C ⟨dst, .call ⟨.builtin .len, #[x], #[T]⟩, ty, pos, aft, gd⟩ env H (.int .i64 (cs.length : Int)) := by
  obtain ⟨B, g1, g2, g3⟩ := g.prf
  subst g2
  subst g1
  cases cs with
  | nil => exact ZlS hx ht
  | cons c cs =>
    have ho : (B ++ growT J e (c :: cs))[B.length + J.length]? = some (some ⟨c :: cs, e, 1, true, none⟩) := by
      simp only [growT]
      rw [List.getElem?_append_right (by omega), Nat.add_sub_cancel_left, List.getElem?_append_right (by omega)]
      simp
    exact ZaF hx ho ht
end
theorem ARun.joinH {C : Ctx} {Q : Post} {k : List Item} {env : List D} {H : Heap} {df : List ADef} {S : Type} {c : Code} {E : S → List D} (cs : S → List (Nat × D)) (HS : S → Heap) (J : S → Prop) [hE : ∀ s, Puts env (cs s) (E s)] (h1 : (∀ s, J s → ARun C Q k (E s) (HS s) df) → ARun C Q (.code c :: k) env H df) (h2 : ∀ s, J s → ARun C Q k (E s) (HS s) df) : ARun C Q (.code c :: k) env H df := h1 h2
end Go.V
set_option maxHeartbeats 8000000
set_option maxRecDepth 100000
set_option synthInstance.maxSize 100000
set_option synthInstance.maxHeartbeats 2000000
namespace Go.V
open Go.RowKit Go.Proofs
abbrev sMark : ByteArray := ⟨#[39]⟩
abbrev dqA (b : Nat) (s : ByteArray) (q : Bool) (p : Nat) : List Nat × Nat × Bool := dqs b q ((sby s).drop p)
theorem isMark {s : ByteArray} {p : Nat} : isAt s p sMark = (decide (p < s.size) && decide ((sby s).getD p 0 = 39)) := isAt_one
structure MarkI (b : Nat) (s : ByteArray) (z : Bool) (p : Nat) (R : List Nat × Nat × Bool) (P : Nat) (Q : Bool) : Prop where
  pos : Q = false ∧ P = p ∨ Q = true ∧ P = p + 1
  le : P ≤ s.size
  val : R = ((dqA b s (Q || z) P).1, P - p + (dqA b s (Q || z) P).2.1, (dqA b s (Q || z) P).2.2)
  no : (Q || z) = false → P < s.size → (sby s).getD P 0 ≠ 39
theorem MarkI.none {b : Nat} {s : ByteArray} {z : Bool} {p : Nat} (hp : p ≤ s.size) (h : z = false → isAt s p sMark = false) : MarkI b s z p (dqA b s z p) p false := by
  refine ⟨.inl ⟨rfl, rfl⟩, hp, ?_, fun h1 h2 h3 => ?_⟩
  · rw [Bool.false_or, Nat.sub_self, Nat.zero_add]
  have := h h1
  rw [isMark, decide_eq_true h2, decide_eq_true h3] at this; cases this
theorem MarkI.one {b : Nat} {s : ByteArray} {z : Bool} {p : Nat} (hz : z = false) (hb : b ≤ 36) (h : isAt s p sMark = true) : MarkI b s z p (dqA b s z p) (p + 1) true := by
  subst hz
  rw [isMark, Bool.and_eq_true, decide_eq_true_eq, decide_eq_true_eq] at h
  refine ⟨.inr ⟨rfl, rfl⟩, h.1, ?_, fun h1 => by cases h1⟩
  rw [dqA, dqs_mark h.1 hb h.2, Bool.true_or, show p + 1 - p = 1 by omega, Nat.add_comm 1]
theorem ZmN (H : Heap) (k : Nat) (s : ByteArray) (i0 b ahead : Nat) (ha : ahead ≤ 1) (hs : s.size ≤ 20000) (hb : b ≤ 36) (hi : i0 ≤ s.size) (hk : H[k]? = some (rdO s i0)) : HC C Zc9 H [.ptr k 0, .int .i64 (b : Int), .bool true, .int .i64 (ahead : Int)]
    (fun x H' => ((dqA b s (decide (ahead = 0)) i0).2.2 = false ∧ x = .pan (wrongW ((i0 + (dqA b s (decide (ahead = 0)) i0).2.1 : Nat) : Int)) ∧ ∃ J, H' = H.set k (rdO s ((i0 + (dqA b s (decide (ahead = 0)) i0).2.1 : Nat) : Int)) ++ J) ∨ ((dqA b s (decide (ahead = 0)) i0).2.2 = true ∧ x = .ret (sln .i64 (dqA b s (decide (ahead = 0)) i0).1) ∧ ∃ J, H' = H.set k (rdO s ((i0 + (dqA b s (decide (ahead = 0)) i0).2.1 : Nat) : Int)) ++ J)) := by
  have kl := (List.getElem?_eq_some_iff.1 hk).1
  generalize hR : dqA b s (decide (ahead = 0)) i0 = R
  refine HC.run Zbj ZcN rfl ZcO (rs := [.tmp 8]) (by rw [ZcP]) (by simp only [List.length_cons, List.length_nil, Nat.reduceAdd, Nat.reduceSub, List.replicate_succ, List.replicate_zero, List.cons_append, List.nil_append]; exact rfl) ?_
  refine ARun.seq (ARun.region ?_); refine xa ?_; refine AOps.nil (ARun.seq (ARun.region ?_)); refine xa ?_; refine AOps.nil (ARun.block ?_)
  refine ARun.hp (H' := H.set k (rdO s ((i0 + 0 : Nat) : Int)) ++ growT [] t_int (nts .i64 [])) (by show H = H.set k _ ++ []; rw [List.append_nil, Nat.add_zero]; exact (set_same hk).symm) ?_
  refine ARun.loopI (S := Nat × List Nat × Heap) (fun σ : Nat × List Nat × Heap => [(8, .any), (10, .any), (11, .any), (12, .any), (13, .any), (14, .any), (15, .any), (16, .any), (17, .any), (18, .any), (19, .any), (20, .any), (21, .any), (22, .any), (23, .any), (24, .any), (25, .any), (26, .any), (27, .any), (28, .any), (29, .any), (30, .any), (31, .any), (32, .any), (33, .any), (34, .any), (35, .any), (36, .any), (37, .any), (38, .any), (39, .any), (40, .any), (41, .any), (42, .any), (43, .any), (44, .any), (45, .any), (46, .any), (47, .any), (48, .any), (49, .any), (50, .any), (51, .any), (52, .any), (53, .any), (54, .any), (55, .any), (56, .any), (57, .any), (58, .any), (59, .any), (60, .any), (61, .any), (62, .any), (63, .any), (64, .any), (65, .any), (66, .any), (67, .any), (68, .any), (69, .any), (70, .any), (71, .any), (72, .any), (73, .any), (74, .any), (75, .any), (76, .any), (77, .any), (78, .any), (79, .any), (80, .any), (81, .any), (82, .any), (83, .any), (84, .any), (85, .any), (86, .any), (9, growD (H.length + σ.2.2.length) (nts .i64 σ.2.1))]) (fun σ : Nat × List Nat × Heap => H.set k (rdO s ((i0 + σ.1 : Nat) : Int)) ++ growT σ.2.2 t_int (nts .i64 σ.2.1)) (fun σ : Nat × List Nat × Heap => i0 + σ.1 ≤ s.size ∧ σ.2.1.length ≤ σ.1 ∧ R = (σ.2.1 ++ (dqA b s (decide (ahead + σ.2.1.length = 0)) (i0 + σ.1)).1, σ.1 + (dqA b s (decide (ahead + σ.2.1.length = 0)) (i0 + σ.1)).2.1, (dqA b s (decide (ahead + σ.2.1.length = 0)) (i0 + σ.1)).2.2)) (fun σ : Nat × List Nat × Heap => s.size - (i0 + σ.1)) ((0, [], [])) ?_ ?_ ?_ ?_
  · exact ⟨hi, Nat.le_refl _, by dsimp only; rw [← hR, List.nil_append, Nat.zero_add]; rfl⟩
  · (repeat' first | exact envLe_nil | apply envLe_any | apply envLe_same)
  · rfl
  rintro ⟨m, L, J⟩ hinv ih
  dsimp only at hinv ih ⊢
  obtain ⟨hm, hLm, hinv⟩ := hinv
  have hnl : (nts .i64 L).length = L.length := nts_length
  refine ARun.block (ARun.seq (ARun.region ?_)); refine xm ?_
  refine y_op rfl (q_nil rfl rfl) ?_
  refine y_op rfl (q_fldP rfl rfl rfl (by decide)) ?_
  refine y_op rfl (Zac rfl rfl rfl (rd_get hk) rfl) ?_
  refine xa ?_; refine AOps.nil (ARun.seq ?_)
  refine ARun.joinH (S := Nat × Bool) (fun σ : Nat × Bool => [(16, .any), (17, .any), (18, .any), (19, .any), (20, .any), (21, .any), (22, .any), (23, .any), (24, .any), (25, .any), (26, .any), (27, .any), (10, .int .i64 ((i0 + m : Nat) : Int)), (11, .bool σ.2)]) (fun σ : Nat × Bool => H.set k (rdO s ((σ.1 : Nat) : Int)) ++ growT J t_int (nts .i64 L)) (fun σ : Nat × Bool => MarkI b s (decide (ahead + L.length = 0)) (i0 + m) (dqA b s (decide (ahead + L.length = 0)) (i0 + m)) σ.1 σ.2) (fun run => ?_) ?_
  · skip
    refine ARun.region ?_; refine xm ?_; refine xm ?_; refine xm ?_; refine xm ?_
    refine y_op rfl (OpQ.cast (ZnD (cs := nts .i64 L) (H := H.set k (rdO s ((i0 + m : Nat) : Int)) ++ growT J t_int (nts .i64 L)) (by rw [List.length_set]; rfl) rfl) (by rw [hnl])) ?_
    refine y_op rfl (q_add rfl rfl (show _ = ((ahead + L.length : Nat) : Int) by rw [IntWalk.i64_in _ (by omega)]; omega)) ?_
    refine y_op rfl (OpQ.cast (d' := .bool (!decide (ahead + L.length = 0))) (q_int rfl rfl rfl) (by congr 1; rw [← decide_not]; apply decide_eq_decide.2; omega)) ?_
    refine xp ?_; refine xm ?_
    refine AOps.bool 24 rfl (fun hz => ?_) (fun hz => ?_)
    · skip
      have hz : decide (ahead + L.length = 0) = false := by rw [Bool.not_eq_true'] at hz; exact hz
      refine xm ?_
      refine Zay rfl rfl rfl rfl (ZnC _ k s sMark (i0 + m) (rd_get hk) hs) ?_ (by rintro _ _ ⟨h, _⟩; cases h)
      rintro _ _ ⟨h, rfl⟩
      injection h with h
      subst h
      refine xp ?_; refine xa ?_; refine AOps.nil ?_
      rcases hq : isAt s (i0 + m) sMark with _ | _
      · skip
        exact ARun.ag (run ((i0 + m, false)) (MarkI.none hm (fun _ => hq)))
      exact ARun.again (run ((i0 + m + 1, true)) (MarkI.one hz hb hq)) (by (repeat' first | exact envLe_nil | apply envLe_any | apply envLe_same)) (rd_set hk)
    have hz : decide (ahead + L.length = 0) = true := by rw [Bool.not_eq_false'] at hz; exact hz
    refine xk ?_; refine xk ?_; refine xp ?_; refine xa ?_; refine AOps.nil ?_
    exact ARun.ag (run ((i0 + m, false)) (MarkI.none hm (fun h => by rw [hz] at h; cases h)))
  rintro ⟨P, Q⟩ hj
  try dsimp only at hj ⊢
  have hP := hj.le
  have hpos := hj.pos
  have hno := hj.no
  have hval := hj.val
  rw [hval] at hinv
  rcases Nat.lt_or_ge P s.size with g | g
  · skip
    refine ARun.seq (ARun.seq ?_)
    refine ARun.drawnP 24 (fun _ => False) mixC rfl rfl (by kernel_rfl) (fun _ _ h => h.elim) ?_
    refine .op rfl (q_move rfl) ?_
    refine .op rfl (q_nil rfl rfl) ?_
    refine .op rfl (q_fldP rfl rfl rfl (by decide)) ?_
    refine .op rfl (Zac rfl rfl rfl (rd_get hk) rfl) ?_
    refine .op rfl (q_move rfl) ?_
    refine .op rfl (q_nil rfl rfl) ?_
    refine .op rfl (q_fldP rfl rfl rfl (by decide)) ?_
    refine .op rfl (Zac rfl rfl rfl (rd_get hk) rfl) ?_
    refine .op rfl (Zan rfl rfl) ?_
    refine .op rfl (OpQ.cast (d' := .bool true) (q_int rfl rfl rfl) (by rw [decide_eq_true (by omega)])) ?_
    refine .op rfl (q_move rfl) ?_
    refine .op rfl (q_move rfl) ?_
    refine .op rfl (q_nil rfl rfl) ?_
    refine .op rfl (q_fldP rfl rfl rfl (by decide)) ?_
    refine .op rfl (Zac rfl rfl rfl (rd_get hk) rfl) ?_
    refine .op rfl (q_move rfl) ?_
    refine .op rfl (q_nil rfl rfl) ?_
    refine .op rfl (q_fldP rfl rfl rfl (by decide)) ?_
    refine .op rfl (Zac rfl rfl rfl (rd_get hk) rfl) ?_
    refine .op rfl (Zak rfl rfl rfl (by omega) (by omega) (sby_get _)) ?_
    refine .op rfl (q_call rfl rfl (Zir ((sby s).getD P 0) (sby_lt _))) ?_
    refine .op rfl (q_move rfl) ?_
    refine .op rfl (q_int rfl rfl rfl) ?_
    refine .op rfl (q_pick rfl rfl rfl rfl) ?_
    refine .nil (fun hG => ?_)
    refine AOps.nil ?_
    refine ARun.ite rfl (fun h => ?_) (fun h => ?_)
    · skip
      have h : digV ((sby s).getD P 0) < b := by omega
      rw [dqA, dqs_dig _ g h] at hinv
      refine ARun.seq ?_
      refine ARun.drawnP 12 (fun _ => False) mixC rfl rfl (by kernel_rfl) (fun _ _ h => h.elim) ?_
      refine .op rfl (q_move rfl) ?_
      refine .op rfl (q_move rfl) ?_
      refine .op rfl (q_nil rfl rfl) ?_
      refine .op rfl (q_fldP rfl rfl rfl (by decide)) ?_
      refine .op rfl (Zac rfl rfl rfl (rd_get hk) rfl) ?_
      refine .op rfl (q_move rfl) ?_
      refine .op rfl (q_nil rfl rfl) ?_
      refine .op rfl (q_fldP rfl rfl rfl (by decide)) ?_
      refine .op rfl (Zac rfl rfl rfl (rd_get hk) rfl) ?_
      refine .op rfl (Zak rfl rfl rfl (by omega) (by omega) (sby_get _)) ?_
      refine .op rfl (q_call rfl rfl (Zir ((sby s).getD P 0) (sby_lt _))) ?_
      refine .op rfl (ZaB rfl rfl rfl rfl rfl rfl rfl rfl rfl rfl rfl (by decide) (by decide) rfl) ?_
      refine .nil (fun hG => ?_)
      refine Zns (dx := .int .i64 ((digV ((sby s).getD P 0) : Nat) : Int)) rfl rfl rfl rfl rfl rfl rfl (by rw [List.length_set]; rfl) rfl (by show (_ + 1) * 8 ≤ _; omega) (by omega) (fun J' => ?_)
      rw [nts_snoc]
      refine xa ?_; refine AOps.nil (ARun.seq (ARun.region ?_)); refine xm ?_
      refine y_op rfl (q_nil rfl rfl) ?_
      refine y_op rfl (q_fldP rfl rfl rfl (by decide)) ?_
      refine y_op rfl (Zac rfl rfl rfl (rd_get hk) rfl) ?_
      refine y_op rfl (q_add rfl rfl (show _ = ((i0 + (P + 1 - i0) : Nat) : Int) by rw [IntWalk.i64_in _ (by omega)]; omega)) ?_
      refine y_op rfl (q_nil rfl rfl) ?_
      refine y_op rfl (q_fldP rfl rfl rfl (by decide)) ?_
      refine y_new rfl (Zad rfl rfl rfl rfl (rd_get hk) rfl (Nat.le_of_ble_eq_true rfl) rfl) (AOps.hp (rd_set hk) ?_)
      refine AOps.nil ?_
      refine ARun.exit rfl ?_
      rw [List.length_set]
      refine ARun.again (ih ((P + 1 - i0, L ++ [digV ((sby s).getD P 0)], J')) ?_ ?_) ?_ ?_
      · exact ⟨by dsimp only; omega, by dsimp only; rw [List.length_append, List.length_singleton]; omega, by dsimp only; rw [show decide (ahead + (L ++ [digV ((sby s).getD P 0)]).length = 0) = false from decide_eq_false (by rw [List.length_append, List.length_singleton]; omega), show i0 + (P + 1 - i0) = P + 1 by omega, hinv, List.append_assoc]; refine Prod.ext rfl (Prod.ext ?_ rfl); show m + (P - (i0 + m) + ((dqA b s false (P + 1)).2.1 + 1)) = P + 1 - i0 + (dqA b s false (P + 1)).2.1; omega⟩
      · (dsimp only; omega)
      · (repeat' first | exact envLe_nil | apply envLe_any | apply envLe_same)
      rfl
    have h : ¬ digV ((sby s).getD P 0) < b := by omega
    have hst := dqs_stop (b := b) (s := s) (p := P) (Q || decide (ahead + L.length = 0)) (fun _ => ⟨h, fun hq => hno hq g⟩)
    rw [dqA, hst] at hinv
    replace hinv : R = (L, m + (P - (i0 + m)), !(Q || decide (ahead + L.length = 0))) := by rw [hinv]; exact Prod.ext (List.append_nil L) rfl
    refine ARun.growEnd 9 (by rw [List.length_set]; rfl) (pures_nts _) (fun J' => ?_)
    rw [sln_len]
    rcases Q with _ | _
    · skip
      refine ARun.skip (ARun.seq (ARun.seq (ARun.region ?_))); refine xm ?_; refine xm ?_; refine xm ?_; refine xm ?_; refine xN ?_
      refine y_op rfl (q_add rfl rfl (show _ = ((ahead + L.length : Nat) : Int) by rw [IntWalk.i64_in _ (by omega)]; omega)) ?_
      refine y_op rfl (OpQ.cast (d' := .bool (decide (ahead + L.length = 0))) (q_int rfl rfl rfl) (by congr 1; apply decide_eq_decide.2; omega)) ?_
      refine xp ?_; refine AOps.nil ?_
      refine ARun.cond rfl (fun hz => ?_) (fun hz => ?_)
      · skip
        refine ARun.region ?_; refine xm ?_
        refine Zay rfl rfl rfl rfl (Zhi _ k s _ (rd_get hk)) (by rintro _ _ ⟨h, _⟩; cases h) (fun q H' hq => by obtain ⟨hq, rfl⟩ := hq; injection hq with hq; subst hq; exact ⟨_, _, .same _, .inl ⟨by rw [hinv, hz]; rfl, by rw [hinv]; show Out.pan (wrongW _) = .pan (wrongW _); congr 2; dsimp only; omega, J', by rw [hinv]; show _ = H.set k (rdO s ((i0 + (m + (P - (i0 + m))) : Nat) : Int)) ++ J'; rw [show i0 + (m + (P - (i0 + m))) = P by omega]; rfl⟩⟩)
      obtain rfl : P = i0 + m := by rcases hpos with ⟨_, h⟩ | ⟨h, _⟩ <;> first | exact h | cases h
      refine ARun.skip (ARun.seq (ARun.region ?_)); refine xm ?_; refine xm ?_
      refine y_op rfl (q_nil rfl rfl) ?_
      refine y_op rfl (q_fldP rfl rfl rfl (by decide)) ?_
      refine y_new rfl (Zad rfl rfl rfl rfl (rd_get hk) rfl (Nat.le_of_ble_eq_true rfl) rfl) (AOps.hp (rd_set hk) ?_)
      refine AOps.nil (ARun.seq (ARun.region ?_)); refine xm ?_; refine xa ?_; refine AOps.nil ?_
      refine ARun.ret ?_
      exact ⟨_, _, _, .tmp rfl .nil, .cons (.same _) .nil, .inr ⟨by rw [hinv, hz]; rfl, by rw [hinv]; rfl, J', by rw [hinv, Nat.sub_self]; rfl⟩⟩
    refine ARun.skip (ARun.seq (ARun.seq (ARun.region ?_))); refine xm ?_; refine xm ?_; refine xk ?_; refine xk ?_; refine xk ?_; refine xk ?_; refine xk ?_; refine xp ?_; refine AOps.nil ?_
    refine ARun.condT rfl ?_
    refine ARun.region ?_; refine xm ?_
    refine Zay rfl rfl rfl rfl (Zhi _ k s _ (rd_get hk)) (by rintro _ _ ⟨h, _⟩; cases h) (fun q H' hq => by obtain ⟨hq, rfl⟩ := hq; injection hq with hq; subst hq; exact ⟨_, _, .same _, .inl ⟨by rw [hinv]; rfl, by rw [hinv]; show Out.pan (wrongW _) = .pan (wrongW _); congr 2; dsimp only; omega, J', by rw [hinv]; show _ = H.set k (rdO s ((i0 + (m + (P - (i0 + m))) : Nat) : Int)) ++ J'; rw [show i0 + (m + (P - (i0 + m))) = P by omega]; rfl⟩⟩)
  refine ARun.seq (ARun.seq ?_)
  refine ARun.drawnP 24 (fun _ => False) mixC rfl rfl (by kernel_rfl) (fun _ _ h => h.elim) ?_
  refine .op rfl (q_move rfl) ?_
  refine .op rfl (q_nil rfl rfl) ?_
  refine .op rfl (q_fldP rfl rfl rfl (by decide)) ?_
  refine .op rfl (Zac rfl rfl rfl (rd_get hk) rfl) ?_
  refine .op rfl (q_move rfl) ?_
  refine .op rfl (q_nil rfl rfl) ?_
  refine .op rfl (q_fldP rfl rfl rfl (by decide)) ?_
  refine .op rfl (Zac rfl rfl rfl (rd_get hk) rfl) ?_
  refine .op rfl (Zan rfl rfl) ?_
  refine .op rfl (OpQ.cast (d' := .bool false) (q_int rfl rfl rfl) (by rw [decide_eq_false (by omega)])) ?_
  refine .op rfl (q_move rfl) ?_
  refine .skip rfl ?_
  refine .skip rfl ?_
  refine .skip rfl ?_
  refine .skip rfl ?_
  refine .skip rfl ?_
  refine .skip rfl ?_
  refine .skip rfl ?_
  refine .skip rfl ?_
  refine .skip rfl ?_
  refine .skip rfl ?_
  refine .skip rfl ?_
  refine .skip rfl ?_
  refine .op rfl (q_pick rfl rfl rfl rfl) ?_
  refine .nil (fun hG => ?_)
  refine AOps.nil ?_
  refine ARun.condF rfl ?_
  have hst := dqs_stop (b := b) (s := s) (p := P) (Q || decide (ahead + L.length = 0)) (fun g' => absurd g' (by omega))
  rw [dqA, hst] at hinv
  replace hinv : R = (L, m + (P - (i0 + m)), !(Q || decide (ahead + L.length = 0))) := by rw [hinv]; exact Prod.ext (List.append_nil L) rfl
  refine ARun.growEnd 9 (by rw [List.length_set]; rfl) (pures_nts _) (fun J' => ?_)
  rw [sln_len]
  rcases Q with _ | _
  · skip
    refine ARun.skip (ARun.seq (ARun.seq (ARun.region ?_))); refine xm ?_; refine xm ?_; refine xm ?_; refine xm ?_; refine xN ?_
    refine y_op rfl (q_add rfl rfl (show _ = ((ahead + L.length : Nat) : Int) by rw [IntWalk.i64_in _ (by omega)]; omega)) ?_
    refine y_op rfl (OpQ.cast (d' := .bool (decide (ahead + L.length = 0))) (q_int rfl rfl rfl) (by congr 1; apply decide_eq_decide.2; omega)) ?_
    refine xp ?_; refine AOps.nil ?_
    refine ARun.cond rfl (fun hz => ?_) (fun hz => ?_)
    · skip
      refine ARun.region ?_; refine xm ?_
      refine Zay rfl rfl rfl rfl (Zhi _ k s _ (rd_get hk)) (by rintro _ _ ⟨h, _⟩; cases h) (fun q H' hq => by obtain ⟨hq, rfl⟩ := hq; injection hq with hq; subst hq; exact ⟨_, _, .same _, .inl ⟨by rw [hinv, hz]; rfl, by rw [hinv]; show Out.pan (wrongW _) = .pan (wrongW _); congr 2; dsimp only; omega, J', by rw [hinv]; show _ = H.set k (rdO s ((i0 + (m + (P - (i0 + m))) : Nat) : Int)) ++ J'; rw [show i0 + (m + (P - (i0 + m))) = P by omega]; rfl⟩⟩)
    obtain rfl : P = i0 + m := by rcases hpos with ⟨_, h⟩ | ⟨h, _⟩ <;> first | exact h | cases h
    refine ARun.skip (ARun.seq (ARun.region ?_)); refine xm ?_; refine xm ?_
    refine y_op rfl (q_nil rfl rfl) ?_
    refine y_op rfl (q_fldP rfl rfl rfl (by decide)) ?_
    refine y_new rfl (Zad rfl rfl rfl rfl (rd_get hk) rfl (Nat.le_of_ble_eq_true rfl) rfl) (AOps.hp (rd_set hk) ?_)
    refine AOps.nil (ARun.seq (ARun.region ?_)); refine xm ?_; refine xa ?_; refine AOps.nil ?_
    refine ARun.ret ?_
    exact ⟨_, _, _, .tmp rfl .nil, .cons (.same _) .nil, .inr ⟨by rw [hinv, hz]; rfl, by rw [hinv]; rfl, J', by rw [hinv, Nat.sub_self]; rfl⟩⟩
  refine ARun.skip (ARun.seq (ARun.seq (ARun.region ?_))); refine xm ?_; refine xm ?_; refine xk ?_; refine xk ?_; refine xk ?_; refine xk ?_; refine xk ?_; refine xp ?_; refine AOps.nil ?_
  refine ARun.condT rfl ?_
  refine ARun.region ?_; refine xm ?_
  refine Zay rfl rfl rfl rfl (Zhi _ k s _ (rd_get hk)) (by rintro _ _ ⟨h, _⟩; cases h) (fun q H' hq => by obtain ⟨hq, rfl⟩ := hq; injection hq with hq; subst hq; exact ⟨_, _, .same _, .inl ⟨by rw [hinv]; rfl, by rw [hinv]; show Out.pan (wrongW _) = .pan (wrongW _); congr 2; dsimp only; omega, J', by rw [hinv]; show _ = H.set k (rdO s ((i0 + (m + (P - (i0 + m))) : Nat) : Int)) ++ J'; rw [show i0 + (m + (P - (i0 + m))) = P by omega]; rfl⟩⟩)
end Go.V
set_option maxHeartbeats 8000000
set_option maxRecDepth 100000
set_option synthInstance.maxSize 100000
set_option synthInstance.maxHeartbeats 2000000
namespace Go.V
open Go.RowKit Go.Proofs
end Go.V
set_option maxHeartbeats 8000000
set_option maxRecDepth 100000
set_option synthInstance.maxSize 100000
set_option synthInstance.maxHeartbeats 2000000
namespace Go.V
open Go.RowKit Go.Proofs
abbrev sZero : ByteArray := ⟨#[48]⟩
abbrev sX : ByteArray := ⟨#[120, 88]⟩
abbrev sB : ByteArray := ⟨#[98, 66]⟩
abbrev sU : ByteArray := ⟨#[117, 85]⟩
abbrev sL1 : ByteArray := ⟨#[108]⟩
abbrev sL2 : ByteArray := ⟨#[76]⟩
theorem isAt_two {s : ByteArray} {i : Nat} {c d : UInt8} : isAt s i ⟨#[c, d]⟩ = (decide (i < s.size) && (decide ((sby s).getD i 0 = c.toNat) || decide ((sby s).getD i 0 = d.toNat))) := by
  have h1 := isAt_one (s := s) (i := i) (c := c)
  have h2 := isAt_one (s := s) (i := i) (c := d)
  unfold isAt at h1 h2 ⊢
  cases hi : decide (i < s.size)
  · rfl
  rw [hi, Bool.true_and, Bool.true_and] at h1 h2
  rw [Bool.true_and, Bool.true_and, ← h1, ← h2]
  show decide (_ ∈ [c, d]) = (decide (_ ∈ [c]) || decide (_ ∈ [d]))
  rw [← Bool.decide_or]
  exact decide_eq_decide.2 (by simp)
def bF (s : ByteArray) : Nat × Nat := bif isAt s 0 sZero then (bif isAt s 1 sX then (16, 2) else bif isAt s 1 sB then (2, 2) else (8, 0)) else (10, 0)
theorem dT {p : Prop} [Decidable p] (h : p) : decide p = true := decide_eq_true h
theorem int_dec {n : Nat} {k : Int} {m : Nat} (h : k = (m : Int)) : decide ((n : Int) = k) = decide (n = m) := decide_eq_decide.2 (by omega)
theorem ZnE (s : ByteArray) (hs : s.size ≤ 20000) : PC C Zme [.str s] (fun o => o = .ret (.tup [.int .i64 (((bF s).1 : Nat) : Int), .int .i64 (((bF s).2 : Nat) : Int)])) := by
  have e0 := isAt_one (s := s) (i := 0) (c := 48)
  have e1 := isAt_two (s := s) (i := 1) (c := 120) (d := 88)
  have e2 := isAt_two (s := s) (i := 1) (c := 98) (d := 66)
  rw [show (48 : UInt8).toNat = 48 from rfl] at e0
  rw [show (120 : UInt8).toNat = 120 from rfl, show (88 : UInt8).toNat = 88 from rfl] at e1
  rw [show (98 : UInt8).toNat = 98 from rfl, show (66 : UInt8).toNat = 66 from rfl] at e2
  have hb : bF s = bif isAt s 0 sZero then (bif isAt s 1 sX then (16, 2) else bif isAt s 1 sB then (2, 2) else (8, 0)) else (10, 0) := rfl
  rw [e0, e1, e2] at hb
  refine PC.rn ZgN Zld Zle (rs := [.tmp 2, .tmp 3]) (by rw [Zlf]) ?_
  refine ARun.seq (ARun.region ?_); refine xa ?_; refine xa ?_; refine AOps.nil (ARun.seq (ARun.seq (ARun.region ?_))); refine xm ?_
  refine y_op rfl (Zan rfl rfl) ?_
  refine xi ?_; refine xm ?_
  refine AOps.bool 7 rfl (fun g => ?_) (fun g => ?_)
  · skip
    have g := of_decide_eq_true g
    refine xm ?_
    refine y_op rfl (Zak rfl rfl rfl (by omega) (by omega) (sby_get (i := 0) _)) ?_
    refine y_op rfl (OpQ.cast (q_int rfl rfl rfl) (congrArg D.bool (int_dec (m := 48) rfl))) ?_
    refine xp ?_; refine AOps.nil ?_
    refine ARun.cond rfl (fun z => ?_) (fun z => ?_)
    · skip
      rw [dT (show 0 < s.size by omega), dT (show 1 < s.size by omega), z] at hb
      refine ARun.seq (ARun.region ?_); refine xm ?_
      refine y_op rfl (Zak rfl rfl rfl (by omega) (by omega) (sby_get (i := 1) _)) ?_
      refine AOps.nil (ARun.block (ARun.seq (ARun.seq (ARun.region ?_))))
      refine y_op rfl (OpQ.cast (q_int rfl rfl rfl) (congrArg D.bool (int_dec (m := 120) rfl))) ?_
      refine xa ?_; refine AOps.nil ?_
      refine ARun.cond rfl (fun x1 => ?_) (fun x1 => ?_)
      · skip
        rw [x1] at hb ⊢
        refine ARun.skip ?_
        refine ARun.condT rfl ?_
        refine ARun.seq (ARun.region ?_); refine xa ?_; refine xa ?_; refine AOps.nil ?_
        refine ARun.ret ?_
        refine ⟨_, _, _, .tmp rfl (.tmp rfl .nil), .cons (.same _) (.cons (.same _) .nil), rfl, ?_⟩
        rw [hb]; rfl
      rw [x1] at hb
      refine ARun.region ?_
      refine y_op rfl (OpQ.cast (q_int rfl rfl rfl) (congrArg D.bool (int_dec (m := 88) rfl))) ?_
      refine xa ?_; refine AOps.nil ?_
      refine ARun.cond rfl (fun x2 => ?_) (fun x2 => ?_)
      · skip
        rw [x2] at hb
        refine ARun.seq (ARun.region ?_); refine xa ?_; refine xa ?_; refine AOps.nil ?_
        refine ARun.ret ?_
        refine ⟨_, _, _, .tmp rfl (.tmp rfl .nil), .cons (.same _) (.cons (.same _) .nil), rfl, ?_⟩
        rw [hb]; rfl
      rw [x2] at hb
      refine ARun.seq (ARun.seq (ARun.region ?_))
      refine y_op rfl (OpQ.cast (q_int rfl rfl rfl) (congrArg D.bool (int_dec (m := 98) rfl))) ?_
      refine xa ?_; refine AOps.nil ?_
      refine ARun.cond rfl (fun x3 => ?_) (fun x3 => ?_)
      · skip
        rw [x3] at hb ⊢
        refine ARun.skip ?_
        refine ARun.condT rfl ?_
        refine ARun.seq (ARun.region ?_); refine xa ?_; refine xa ?_; refine AOps.nil ?_
        refine ARun.ret ?_
        refine ⟨_, _, _, .tmp rfl (.tmp rfl .nil), .cons (.same _) (.cons (.same _) .nil), rfl, ?_⟩
        rw [hb]; rfl
      rw [x3] at hb
      refine ARun.region ?_
      refine y_op rfl (OpQ.cast (q_int rfl rfl rfl) (congrArg D.bool (int_dec (m := 66) rfl))) ?_
      refine xa ?_; refine AOps.nil ?_
      refine ARun.cond rfl (fun x4 => ?_) (fun x4 => ?_)
      · skip
        rw [x4] at hb
        refine ARun.seq (ARun.region ?_); refine xa ?_; refine xa ?_; refine AOps.nil ?_
        refine ARun.ret ?_
        refine ⟨_, _, _, .tmp rfl (.tmp rfl .nil), .cons (.same _) (.cons (.same _) .nil), rfl, ?_⟩
        rw [hb]; rfl
      rw [x4] at hb
      refine ARun.skip (ARun.inBlock (ARun.seq (ARun.seq (ARun.region ?_)))); refine xm ?_
      refine y_op rfl (Zan rfl rfl) ?_
      refine xi ?_; refine xm ?_
      refine AOps.bool 23 rfl (fun g0 => ?_) (fun g0 => ?_)
      · skip
        refine xm ?_
        refine y_op rfl (Zak rfl rfl rfl (by omega) (by omega) (sby_get (i := 0) _)) ?_
        refine y_op rfl (OpQ.cast (q_int rfl rfl rfl) (congrArg D.bool (int_dec (m := 48) rfl))) ?_
        refine xp ?_; refine AOps.nil ?_
        refine ARun.cond rfl (fun z0 => ?_) (fun z0 => ?_)
        · skip
          refine ARun.seq (ARun.region ?_); refine xa ?_; refine xa ?_; refine AOps.nil ?_
          refine ARun.ret ?_
          refine ⟨_, _, _, .tmp rfl (.tmp rfl .nil), .cons (.same _) (.cons (.same _) .nil), rfl, ?_⟩
          rw [hb]; rfl
        rw [z] at z0; cases z0
      have g0 := of_decide_eq_false g0
      exfalso; omega
    rw [z, Bool.and_false] at hb
    refine ARun.skip (ARun.seq (ARun.seq (ARun.region ?_))); refine xm ?_
    refine y_op rfl (Zan rfl rfl) ?_
    refine xi ?_; refine xm ?_
    refine AOps.bool 23 rfl (fun g0 => ?_) (fun g0 => ?_)
    · skip
      refine xm ?_
      refine y_op rfl (Zak rfl rfl rfl (by omega) (by omega) (sby_get (i := 0) _)) ?_
      refine y_op rfl (OpQ.cast (q_int rfl rfl rfl) (congrArg D.bool (int_dec (m := 48) rfl))) ?_
      refine xp ?_; refine AOps.nil ?_
      refine ARun.cond rfl (fun z0 => ?_) (fun z0 => ?_)
      · skip
        rw [z] at z0; cases z0
      refine ARun.skip (ARun.seq (ARun.region ?_)); refine xa ?_; refine xa ?_; refine AOps.nil ?_
      refine ARun.ret ?_
      refine ⟨_, _, _, .tmp rfl (.tmp rfl .nil), .cons (.same _) (.cons (.same _) .nil), rfl, ?_⟩
      rw [hb]; rfl
    refine xk ?_; refine xk ?_; refine xk ?_; refine xp ?_; refine AOps.nil ?_
    refine ARun.condF rfl ?_
    refine ARun.skip (ARun.seq (ARun.region ?_)); refine xa ?_; refine xa ?_; refine AOps.nil ?_
    refine ARun.ret ?_
    refine ⟨_, _, _, .tmp rfl (.tmp rfl .nil), .cons (.same _) (.cons (.same _) .nil), rfl, ?_⟩
    rw [hb]; rfl
  have g := of_decide_eq_false g
  rw [decide_eq_false (show ¬ 1 < s.size by omega)] at hb
  refine xk ?_; refine xk ?_; refine xk ?_; refine xp ?_; refine AOps.nil ?_
  refine ARun.condF rfl ?_
  refine ARun.skip (ARun.seq (ARun.seq (ARun.region ?_))); refine xm ?_
  refine y_op rfl (Zan rfl rfl) ?_
  refine xi ?_; refine xm ?_
  refine AOps.bool 23 rfl (fun g0 => ?_) (fun g0 => ?_)
  · skip
    have g0 := of_decide_eq_true g0
    rw [dT (show 0 < s.size by omega)] at hb
    refine xm ?_
    refine y_op rfl (Zak rfl rfl rfl (by omega) (by omega) (sby_get (i := 0) _)) ?_
    refine y_op rfl (OpQ.cast (q_int rfl rfl rfl) (congrArg D.bool (int_dec (m := 48) rfl))) ?_
    refine xp ?_; refine AOps.nil ?_
    refine ARun.cond rfl (fun z0 => ?_) (fun z0 => ?_)
    · skip
      rw [z0] at hb
      refine ARun.seq (ARun.region ?_); refine xa ?_; refine xa ?_; refine AOps.nil ?_
      refine ARun.ret ?_
      refine ⟨_, _, _, .tmp rfl (.tmp rfl .nil), .cons (.same _) (.cons (.same _) .nil), rfl, ?_⟩
      rw [hb]; rfl
    rw [z0] at hb
    refine ARun.skip (ARun.seq (ARun.region ?_)); refine xa ?_; refine xa ?_; refine AOps.nil ?_
    refine ARun.ret ?_
    refine ⟨_, _, _, .tmp rfl (.tmp rfl .nil), .cons (.same _) (.cons (.same _) .nil), rfl, ?_⟩
    rw [hb]; rfl
  have g0 := of_decide_eq_false g0
  rw [decide_eq_false (show ¬ 0 < s.size by omega)] at hb
  refine xk ?_; refine xk ?_; refine xk ?_; refine xp ?_; refine AOps.nil ?_
  refine ARun.condF rfl ?_
  refine ARun.skip (ARun.seq (ARun.region ?_)); refine xa ?_; refine xa ?_; refine AOps.nil ?_
  refine ARun.ret ?_
  refine ⟨_, _, _, .tmp rfl (.tmp rfl .nil), .cons (.same _) (.cons (.same _) .nil), rfl, ?_⟩
  rw [hb]; rfl
theorem ZlH (s : ByteArray) (hs : s.size ≤ 20000) (at' b : Nat) (ha : at' ≤ s.size) (hb : b ≤ 36) : PC C Zj9 [.str s, .int .i64 (at' : Int), .int .i64 (b : Int)] (fun o => o = .ret (.tup [.int .i64 ((at' + (dqA b s true at').2.1 : Nat) : Int), .bool (dqA b s true at').2.2])) := by
  generalize hR : dqA b s true at' = R
  refine PC.rn Zen Zi3 Zi4 (rs := [.tmp 6, .tmp 7]) (by rw [Zi5]) ?_
  refine ARun.seq (ARun.region ?_); refine xa ?_; refine xa ?_; refine AOps.nil (ARun.seq (ARun.seq (ARun.region ?_))); refine xm ?_; refine xm ?_
  refine y_op rfl (Zan rfl rfl) ?_
  refine xi ?_; refine xm ?_
  refine AOps.bool 12 rfl (fun g => ?_) (fun g => ?_)
  · skip
    have g := of_decide_eq_true g
    have h := dqs_stop (b := b) (s := s) (p := at') true (fun h => absurd h (by omega))
    rw [dqA, h] at hR
    subst hR
    refine xk ?_; refine xk ?_; refine xk ?_; refine xk ?_; refine xk ?_; refine xk ?_; refine xp ?_; refine AOps.nil ?_
    refine ARun.condT rfl ?_
    refine ARun.seq (ARun.region ?_); refine xm ?_; refine xa ?_; refine xa ?_; refine AOps.nil ?_
    refine ARun.ret ?_
    refine ⟨_, _, _, .tmp rfl (.tmp rfl .nil), .cons (.same _) (.cons (.same _) .nil), rfl, ?_⟩
    rfl
  have g := of_decide_eq_false g
  have g' : at' < s.size := by omega
  refine xm ?_; refine xm ?_
  refine y_op rfl (Zak rfl rfl rfl (by omega) (by omega) (sby_get _)) ?_
  refine xm ?_
  refine xc rfl rfl (Zb5 ((sby s).getD at' 0) (sby_lt _) b hb) ?_
  refine xn ?_; refine xp ?_; refine AOps.nil ?_
  refine ARun.cond rfl (fun hd => ?_) (fun hd => ?_)
  · skip
    have hd : ¬ digV ((sby s).getD at' 0) < b := by simpa using hd
    have h := dqs_stop (b := b) (s := s) (p := at') true (fun _ => ⟨hd, fun h => by cases h⟩)
    rw [dqA, h] at hR
    subst hR
    refine ARun.seq (ARun.region ?_); refine xm ?_; refine xa ?_; refine xa ?_; refine AOps.nil ?_
    refine ARun.ret ?_
    refine ⟨_, _, _, .tmp rfl (.tmp rfl .nil), .cons (.same _) (.cons (.same _) .nil), rfl, ?_⟩
    rfl
  have hd : digV ((sby s).getD at' 0) < b := by simpa using hd
  have h := dqs_dig (b := b) (s := s) (p := at') true g' hd
  have h2 := dqs_dig (b := b) (s := s) (p := at') false g' hd
  rw [← h2] at h
  rw [dqA, h] at hR
  refine ARun.skip (ARun.seq (ARun.block ?_))
  refine ARun.loopI (S := Nat) (fun i : Nat => [(6, .any), (7, .any), (21, .any), (22, .any), (23, .any), (24, .any), (25, .any), (26, .any), (27, .any), (28, .any), (29, .any), (30, .any), (31, .any), (32, .any), (33, .any), (34, .any), (35, .any), (36, .any), (37, .any), (38, .any), (39, .any), (40, .any), (41, .any), (42, .any), (43, .any), (44, .any), (45, .any), (46, .any), (47, .any), (48, .any), (49, .any), (50, .any), (51, .any), (1, .int .i64 (i : Int))]) (fun i : Nat => []) (fun i : Nat => at' ≤ i ∧ i ≤ s.size ∧ at' + R.2.1 = i + (dqA b s false i).2.1 ∧ R.2.2 = (dqA b s false i).2.2) (fun i : Nat => s.size - i) (at') ?_ ?_ ?_ ?_
  · exact ⟨Nat.le_refl _, by omega, by rw [← hR], by rw [← hR]⟩
  · (repeat' first | exact envLe_nil | apply envLe_any | apply envLe_same)
  · rfl
  rintro i hinv ih
  obtain ⟨i1, i2, i3, i4⟩ := hinv
  refine ARun.seq (ARun.seq (ARun.region ?_)); refine xm ?_; refine xm ?_
  refine y_op rfl (Zan rfl rfl) ?_
  refine xi ?_; refine AOps.nil ?_
  refine ARun.ite rfl (fun f => ?_) (fun f => ?_)
  · skip
    have f : i < s.size := by omega
    refine ARun.skip (ARun.block (ARun.seq (ARun.seq (ARun.region ?_)))); refine xm ?_; refine xm ?_
    refine y_op rfl (Zak rfl rfl rfl (by omega) (by omega) (sby_get _)) ?_
    refine xm ?_
    refine xc rfl rfl (Zb5 ((sby s).getD i 0) (sby_lt _) b hb) ?_
    refine AOps.nil ?_
    refine ARun.ite rfl (fun c => ?_) (fun c => ?_)
    · skip
      rw [dqA, dqs_dig false f c] at i3 i4
      refine ARun.seq (ARun.region ?_); refine xm ?_
      refine y_op rfl (q_add rfl rfl (nadd1_i64 (by omega))) ?_
      refine xa ?_; refine AOps.nil ?_
      refine ARun.exit rfl ?_
      refine ARun.again (ih (i + 1) ?_ ?_) ?_ ?_
      · exact ⟨by omega, f, by rw [i3]; show i + ((dqA b s false (i + 1)).2.1 + 1) = _; omega, i4⟩
      · omega
      · (repeat' first | exact envLe_nil | apply envLe_any | apply envLe_same)
      rfl
    refine ARun.skip (ARun.seq (ARun.seq (ARun.region ?_))); refine xm ?_; refine xm ?_
    refine y_op rfl (Zak rfl rfl rfl (by omega) (by omega) (sby_get _)) ?_
    refine xi ?_; refine AOps.nil ?_
    refine ARun.cond rfl (fun q => ?_) (fun q => ?_)
    · skip
      have q : (sby s).getD i 0 ≠ 39 := by
        intro h; rw [h] at q; exact absurd q (by decide)
      have h3 := dqs_stop (b := b) (s := s) (p := i) false (fun _ => ⟨c, fun _ => q⟩)
      rw [dqA, h3] at i3 i4
      refine ARun.seq (ARun.region ?_); refine xm ?_; refine xa ?_; refine xa ?_; refine AOps.nil ?_
      refine ARun.ret ?_
      refine ⟨_, _, _, .tmp rfl (.tmp rfl .nil), .cons (.same _) (.cons (.same _) .nil), rfl, ?_⟩
      rw [i3, i4]; rfl
    have q : (sby s).getD i 0 = 39 := by
      apply Classical.byContradiction
      intro h
      have : ((((sby s).getD i 0 : Nat) : Int) != 39) = true := by rw [bne_iff_ne]; omega
      rw [this] at q; cases q
    rw [dqA, dqs_mark f hb q] at i3 i4
    refine ARun.skip (ARun.seq (ARun.region ?_)); refine xm ?_
    refine y_op rfl (q_add rfl rfl (nadd1_i64 (by omega))) ?_
    refine xa ?_; refine AOps.nil (ARun.seq (ARun.region ?_)); refine xm ?_; refine xm ?_
    refine y_op rfl (Zan rfl rfl) ?_
    refine xi ?_; refine xm ?_
    refine AOps.bool 43 rfl (fun e => ?_) (fun e => ?_)
    · skip
      have e := of_decide_eq_true e
      have h3 := dqs_stop (b := b) (s := s) (p := i + 1) true (fun h => absurd h (by omega))
      rw [h3] at i3 i4
      refine xk ?_; refine xk ?_; refine xk ?_; refine xk ?_; refine xk ?_; refine xk ?_; refine xp ?_; refine AOps.nil ?_
      refine ARun.condT rfl ?_
      refine ARun.seq (ARun.region ?_); refine xm ?_; refine xa ?_; refine xa ?_; refine AOps.nil ?_
      refine ARun.ret ?_
      refine ⟨_, _, _, .tmp rfl (.tmp rfl .nil), .cons (.same _) (.cons (.same _) .nil), rfl, ?_⟩
      rw [i3, i4]; rfl
    have e := of_decide_eq_false e
    have e' : i + 1 < s.size := by omega
    refine xm ?_; refine xm ?_
    refine y_op rfl (Zak rfl rfl rfl (by omega) (by omega) (sby_get (i := i + 1) _)) ?_
    refine xm ?_
    refine xc rfl rfl (Zb5 ((sby s).getD (i + 1) 0) (sby_lt _) b hb) ?_
    refine xn ?_; refine xp ?_; refine AOps.nil ?_
    refine ARun.cond rfl (fun d2 => ?_) (fun d2 => ?_)
    · skip
      have d2 : ¬ digV ((sby s).getD (i + 1) 0) < b := by simpa using d2
      have h3 := dqs_stop (b := b) (s := s) (p := i + 1) true (fun _ => ⟨d2, fun h => by cases h⟩)
      rw [h3] at i3 i4
      refine ARun.seq (ARun.region ?_); refine xm ?_; refine xa ?_; refine xa ?_; refine AOps.nil ?_
      refine ARun.ret ?_
      refine ⟨_, _, _, .tmp rfl (.tmp rfl .nil), .cons (.same _) (.cons (.same _) .nil), rfl, ?_⟩
      rw [i3, i4]; rfl
    have d2 : digV ((sby s).getD (i + 1) 0) < b := by simpa using d2
    have h3 := dqs_dig (b := b) (s := s) (p := i + 1) true e' d2
    have h4 := dqs_dig (b := b) (s := s) (p := i + 1) false e' d2
    rw [← h4] at h3
    rw [h3] at i3 i4
    refine ARun.skip (ARun.inBlock ?_)
    refine ARun.again (ih (i + 1) ?_ ?_) ?_ ?_
    · exact ⟨by omega, by omega, by rw [i3]; show i + ((dqA b s false (i + 1)).2.1 + 1) = _; omega, i4⟩
    · omega
    · (repeat' first | exact envLe_nil | apply envLe_any | apply envLe_same)
    rfl
  have h3 := dqs_stop (b := b) (s := s) (p := i) false (fun h => absurd h (by omega))
  rw [dqA, h3] at i3 i4
  refine ARun.exit rfl ?_
  refine ARun.seq (ARun.region ?_); refine xm ?_; refine xa ?_; refine xa ?_; refine AOps.nil ?_
  refine ARun.ret ?_
  refine ⟨_, _, _, .tmp rfl (.tmp rfl .nil), .cons (.same _) (.cons (.same _) .nil), rfl, ?_⟩
  rw [i3, i4]; rfl
end Go.V
