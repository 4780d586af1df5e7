/- A part of the proof: abstract values, rules for the steps of the program's form, and contracts of its functions, each proved; no condition. -/
import Derived.Test.YtjohcjagbodicabGreatDoorA08
import Derived.Shelf.Strings.Builder1
import Derived.Shelf.Strings.Builder2
import Derived.Lib.Case
import Derived.Lib.TrimByte
import Derived.BigCall
import Derived.BigGuard
import Derived.Test.YtjohcjagbodicabGreatDoorProg
set_option linter.unusedVariables false
set_option linter.unusedSimpArgs false
set_option synthInstance.maxSize 100000
set_option synthInstance.maxHeartbeats 2000000
namespace Go.V
open Go.RowKit Go.Proofs
def outZ : Int ⊕ Int → Out
  | .inl z => .ret (intD z)
  | .inr e => .pan (failW e)
def resZ (ok : Bool) (v : Int ⊕ Int) : Int × Int :=
  bif ok then (match v with
    | .inl z => (z, 0)
    | .inr e => (0, e)) else (0, 1)
theorem intD_zero : intD 0 = .agg [.bool false, .sl 0 []] := by
  have : numD 0 = .sl 0 [] := by rw [numD, lim_zero]; rfl
  show D.agg [.bool (decide ((0 : Int) < 0)), numD 0] = _
  rw [this]; rfl
theorem fz_int0 {H : Heap} : Fz H (.agg [.bool false, .nilsl]) (intD 0) [] := by
  rw [intD_zero]; exact .agg (.cons (.same _) (.cons .nil .nil))
theorem ZjZ (l : List (Bool × List Nat)) (n : Nat) (hn : l.length = n) (f : FuncId) (caps : List D) (hc : D.pure.pures caps = true) (v : Int ⊕ Int) (hf : l.all okI = true → PC C f caps (fun o => o = outZ v)) :
    PC C Zgn [.clos f caps, .sl n (cellsI l)] (fun o => o = .ret (.tup [intD (resZ (l.all okI) v).1, .int .i64 (resZ (l.all okI) v).2])) := by
  have pan : ∀ (e : Int) (env : List D), env[4]? = some (.ptr 0 0) → env[5]? = some (.ptr 1 0) → resZ (l.all okI) v = (0, e) → (QFin C [.cell 4 27, .cell 5 31] fun o x => o.pure = true ∧ o = .ret (.tup [intD (resZ (l.all okI) v).1, .int .i64 (resZ (l.all okI) v).2])) (.pan (failW e)) env [some ⟨[.bool false, .nilsl], Zf7, 1, true, none⟩, errO 0] [.fn ZaV [.ptr 1 0]] := by
    intro e env h4 h5 hr
    refine DC.mono (dcw_pan _ 1 0 e rfl) ?_
    rintro _ _ ⟨rfl, rfl⟩
    exact ⟨_, _, _, ResR.cellA h4 rfl rfl rfl rfl rfl (ResR.cell1 h5 rfl rfl rfl rfl .nil), .cons fz_int0 (.cons (.same _) .nil), rfl, by rw [hr]; rfl⟩
  refine PC.run Zcs Zfm rfl Zfn (by simp only [D.pure.pures, D.pure, hc, Bool.true_and]) (rs := [.cell 4 27, .cell 5 31]) (by rw [Zfo]) (by simp only [List.length_cons, List.length_nil, Nat.reduceAdd, Nat.reduceSub, List.replicate_succ, List.replicate_zero, List.cons_append, List.nil_append]; exact rfl) ?_
  refine ARun.seq (ARun.region ?_)
  refine y_new rfl (Zae rfl rfl rfl rfl) ?_
  refine y_new rfl (Zae rfl rfl rfl rfl) ?_
  refine AOps.nil (ARun.seq (ARun.region ?_))
  refine Zdl rfl rfl rfl ?_
  refine AOps.nil (ARun.seq (ARun.region ?_)); refine zzm ?_
  refine y_gop rfl (g_call rfl rfl (PC.gp (Zg5 l n hn))) (fun hg => ?_) (fun q hq => by obtain ⟨hq, rfl⟩ := hq; exact pan 1 _ rfl rfl (by rw [hq]; rfl))
  have hfa := hf hg
  cases v with
  | inr e =>
    refine AOps.nil (ARun.seq (ARun.region ?_)); refine zzm ?_
    refine y_gop rfl (g_call (d := .any) (g := False) (KP := fun q => q = failW e) (args := []) rfl rfl (hfa.mono fun o ho => .inr ⟨failW e, rfl, ho⟩)) (fun hg => hg.elim) (fun q hq => by subst hq; exact pan e _ rfl rfl (by rw [hg]; rfl))
  | inl z =>
    refine AOps.nil (ARun.seq (ARun.region ?_)); refine zzm ?_
    refine y_op rfl (q_call (args := []) rfl rfl hfa) ?_
    refine y_new rfl (Zaa rfl rfl rfl rfl rfl rfl rfl rfl (Nat.le_of_ble_eq_true rfl) rfl) ?_
    refine y_new rfl (Zad rfl rfl rfl rfl rfl rfl (Nat.le_of_ble_eq_true rfl) rfl) ?_
    refine AOps.nil ?_
    refine ARun.ret ?_
    refine DC.mono (dcw_ret _ 1) ?_
    rintro _ _ ⟨rfl, rfl⟩
    exact ⟨_, _, _, ResR.cellA rfl rfl rfl rfl rfl rfl (ResR.cell1 rfl rfl rfl rfl rfl .nil), .cons (.same _) (.cons (.same _) .nil), rfl, by rw [hg]; rfl⟩
end Go.V
/- Go's strings.Builder (Grow, WriteString, WriteByte, String): the library's contracts, laid at this seat's numbers. -/
namespace Go.V
open Go.Shelf Go.RowKit Go.Proofs
def bRen165 : Ren := ⟨fun | 165 => 74 | 240 => 103 | 241 => 104 | 276 => 122 | 277 => 123 | n => n, fun | 0 => 0 | 3 => 3 | 4 => 4 | 5 => 5 | 9 => 9 | 20 => 20 | 37 => 98 | 70 => 121 | 72 => 123 | 75 => 126 | 80 => 130 | 119 => 127 | 127 => 159 | 164 => 174 | n => n, fun n => n⟩
theorem bLay165 : Lays.n165 Tryz.prog bRen165 := {
  mixed := by kernel_rfl
  f165 := Tryz.func74.trans (congrArg some (by kernel_rfl))
  f240 := Tryz.func103.trans (congrArg some (by kernel_rfl))
  f241 := Tryz.func104.trans (congrArg some (by kernel_rfl))
  f276 := Tryz.func122.trans (congrArg some (by kernel_rfl))
  f277 := Tryz.func123.trans (congrArg some (by kernel_rfl))
  t0 := Tryz.underlying0
  a0 := Tryz.isAgg0
  z0 := Tryz.sizeOf0
  v0 := Tryz.zeroValue0
  t3 := Tryz.underlying3
  a3 := Tryz.isAgg3
  z3 := Tryz.sizeOf3
  v3 := Tryz.zeroValue3
  t4 := Tryz.underlying4
  a4 := Tryz.isAgg4
  z4 := Tryz.sizeOf4
  v4 := Tryz.zeroValue4
  t9 := Tryz.underlying9
  a9 := Tryz.isAgg9
  z9 := Tryz.sizeOf9
  v9 := Tryz.zeroValue9
  t20 := Tryz.underlying20
  a20 := Tryz.isAgg20
  z20 := Tryz.sizeOf20
  v20 := Tryz.zeroValue20
  t37 := Tryz.underlying98
  a37 := Tryz.isAgg98
  z37 := Tryz.sizeOf98
  v37 := Tryz.zeroValue98
  t70 := Tryz.underlying121
  a70 := Tryz.isAgg121
  z70 := Tryz.sizeOf121
  v70 := Tryz.zeroValue121
  t72 := Tryz.underlying123
  a72 := Tryz.isAgg123
  z72 := Tryz.sizeOf123
  v72 := Tryz.zeroValue123
  t164 := Tryz.underlying174
  a164 := Tryz.isAgg174
  z164 := Tryz.sizeOf174
  v164 := Tryz.zeroValue174 }
theorem bX165 : Builder.Extra Tryz.prog bRen165 := { sizeBuilder := by kernel_rfl, liesBuilder := by kernel_rfl, t5 := Tryz.underlying5, a5 := Tryz.isAgg5, z5 := Tryz.sizeOf5, v5 := Tryz.zeroValue5, infoByte := by kernel_rfl, cellsByte := by kernel_rfl, sizeByte := by kernel_rfl, neB5 := by decide }
def bRen166 : Ren := ⟨fun | 166 => 75 | 240 => 103 | 276 => 122 | n => n, fun | 0 => 0 | 3 => 3 | 4 => 4 | 5 => 5 | 9 => 9 | 20 => 20 | 37 => 98 | 70 => 121 | 72 => 123 | 75 => 126 | 80 => 130 | 119 => 127 | 127 => 159 | 164 => 174 | n => n, fun n => n⟩
theorem bLay166 : Lays.n166 Tryz.prog bRen166 := {
  mixed := by kernel_rfl
  f166 := Tryz.func75.trans (congrArg some (by kernel_rfl))
  f240 := Tryz.func103.trans (congrArg some (by kernel_rfl))
  f276 := Tryz.func122.trans (congrArg some (by kernel_rfl))
  t0 := Tryz.underlying0
  a0 := Tryz.isAgg0
  z0 := Tryz.sizeOf0
  v0 := Tryz.zeroValue0
  t3 := Tryz.underlying3
  a3 := Tryz.isAgg3
  z3 := Tryz.sizeOf3
  v3 := Tryz.zeroValue3
  t4 := Tryz.underlying4
  a4 := Tryz.isAgg4
  z4 := Tryz.sizeOf4
  v4 := Tryz.zeroValue4
  t9 := Tryz.underlying9
  a9 := Tryz.isAgg9
  z9 := Tryz.sizeOf9
  v9 := Tryz.zeroValue9
  t20 := Tryz.underlying20
  a20 := Tryz.isAgg20
  z20 := Tryz.sizeOf20
  v20 := Tryz.zeroValue20
  t37 := Tryz.underlying98
  a37 := Tryz.isAgg98
  z37 := Tryz.sizeOf98
  v37 := Tryz.zeroValue98
  t70 := Tryz.underlying121
  a70 := Tryz.isAgg121
  z70 := Tryz.sizeOf121
  v70 := Tryz.zeroValue121
  t72 := Tryz.underlying123
  a72 := Tryz.isAgg123
  z72 := Tryz.sizeOf123
  v72 := Tryz.zeroValue123
  t75 := Tryz.underlying126
  a75 := Tryz.isAgg126
  z75 := Tryz.sizeOf126
  v75 := Tryz.zeroValue126
  t164 := Tryz.underlying174
  a164 := Tryz.isAgg174
  z164 := Tryz.sizeOf174
  v164 := Tryz.zeroValue174 }
theorem bX166 : Builder.Extra Tryz.prog bRen166 := { sizeBuilder := by kernel_rfl, liesBuilder := by kernel_rfl, t5 := Tryz.underlying5, a5 := Tryz.isAgg5, z5 := Tryz.sizeOf5, v5 := Tryz.zeroValue5, infoByte := by kernel_rfl, cellsByte := by kernel_rfl, sizeByte := by kernel_rfl, neB5 := by decide }
def bRen167 : Ren := ⟨fun | 167 => 76 | 240 => 103 | 276 => 122 | n => n, fun | 0 => 0 | 3 => 3 | 4 => 4 | 5 => 5 | 9 => 9 | 20 => 20 | 37 => 98 | 70 => 121 | 72 => 123 | 75 => 126 | 80 => 130 | 119 => 127 | 127 => 159 | 164 => 174 | n => n, fun n => n⟩
theorem bLay167 : Lays.n167 Tryz.prog bRen167 := {
  mixed := by kernel_rfl
  f167 := Tryz.func76.trans (congrArg some (by kernel_rfl))
  f240 := Tryz.func103.trans (congrArg some (by kernel_rfl))
  f276 := Tryz.func122.trans (congrArg some (by kernel_rfl))
  t0 := Tryz.underlying0
  a0 := Tryz.isAgg0
  z0 := Tryz.sizeOf0
  v0 := Tryz.zeroValue0
  t4 := Tryz.underlying4
  a4 := Tryz.isAgg4
  z4 := Tryz.sizeOf4
  v4 := Tryz.zeroValue4
  t5 := Tryz.underlying5
  a5 := Tryz.isAgg5
  z5 := Tryz.sizeOf5
  v5 := Tryz.zeroValue5
  t9 := Tryz.underlying9
  a9 := Tryz.isAgg9
  z9 := Tryz.sizeOf9
  v9 := Tryz.zeroValue9
  t20 := Tryz.underlying20
  a20 := Tryz.isAgg20
  z20 := Tryz.sizeOf20
  v20 := Tryz.zeroValue20
  t37 := Tryz.underlying98
  a37 := Tryz.isAgg98
  z37 := Tryz.sizeOf98
  v37 := Tryz.zeroValue98
  t70 := Tryz.underlying121
  a70 := Tryz.isAgg121
  z70 := Tryz.sizeOf121
  v70 := Tryz.zeroValue121
  t72 := Tryz.underlying123
  a72 := Tryz.isAgg123
  z72 := Tryz.sizeOf123
  v72 := Tryz.zeroValue123
  t75 := Tryz.underlying126
  a75 := Tryz.isAgg126
  z75 := Tryz.sizeOf126
  v75 := Tryz.zeroValue126
  t164 := Tryz.underlying174
  a164 := Tryz.isAgg174
  z164 := Tryz.sizeOf174
  v164 := Tryz.zeroValue174 }
theorem bX167 : Builder.Extra Tryz.prog bRen167 := { sizeBuilder := by kernel_rfl, liesBuilder := by kernel_rfl, t5 := Tryz.underlying5, a5 := Tryz.isAgg5, z5 := Tryz.sizeOf5, v5 := Tryz.zeroValue5, infoByte := by kernel_rfl, cellsByte := by kernel_rfl, sizeByte := by kernel_rfl, neB5 := by decide }
def bRen169 : Ren := ⟨fun | 169 => 77 | n => n, fun | 0 => 0 | 3 => 3 | 4 => 4 | 5 => 5 | 9 => 9 | 20 => 20 | 37 => 98 | 70 => 121 | 72 => 123 | 75 => 126 | 80 => 130 | 119 => 127 | 127 => 159 | 164 => 174 | n => n, fun n => n⟩
theorem bLay169 : Lays.n169 Tryz.prog bRen169 := {
  mixed := by kernel_rfl
  f169 := Tryz.func77.trans (congrArg some (by kernel_rfl))
  t0 := Tryz.underlying0
  a0 := Tryz.isAgg0
  z0 := Tryz.sizeOf0
  v0 := Tryz.zeroValue0
  t3 := Tryz.underlying3
  a3 := Tryz.isAgg3
  z3 := Tryz.sizeOf3
  v3 := Tryz.zeroValue3
  t9 := Tryz.underlying9
  a9 := Tryz.isAgg9
  z9 := Tryz.sizeOf9
  v9 := Tryz.zeroValue9
  t37 := Tryz.underlying98
  a37 := Tryz.isAgg98
  z37 := Tryz.sizeOf98
  v37 := Tryz.zeroValue98
  t70 := Tryz.underlying121
  a70 := Tryz.isAgg121
  z70 := Tryz.sizeOf121
  v70 := Tryz.zeroValue121
  t72 := Tryz.underlying123
  a72 := Tryz.isAgg123
  z72 := Tryz.sizeOf123
  v72 := Tryz.zeroValue123
  t127 := Tryz.underlying159
  a127 := Tryz.isAgg159
  z127 := Tryz.sizeOf159
  v127 := Tryz.zeroValue159 }
theorem bX169 : Builder.Extra Tryz.prog bRen169 := { sizeBuilder := by kernel_rfl, liesBuilder := by kernel_rfl, t5 := Tryz.underlying5, a5 := Tryz.isAgg5, z5 := Tryz.sizeOf5, v5 := Tryz.zeroValue5, infoByte := by kernel_rfl, cellsByte := by kernel_rfl, sizeByte := by kernel_rfl, neB5 := by decide }
end Go.V
/- strings.ToUpper on text below 128: a walk over its code, by the Builder's contracts. -/
namespace Go.V
open Go.Shelf Go.RowKit Go.Proofs
theorem hidU {p : Prop} (h : p) : Hid p := h
abbrev IsB (b : Nat) (l : List Value) (w : World) : Prop := Lib.IsBuilder 123 5 b b l w
abbrev upTo (s : ByteArray) (p : Nat) : List Value := Lib.byteCells ((s.data.toList.take p).map Lib.upperB)
theorem upTo_length (s : ByteArray) (p : Nat) (h : p ≤ s.size) : (upTo s p).length = p := by
  rw [Lib.byteCells_length, List.length_map, List.length_take, ← Lib.size_eq]; omega
theorem extract_len (s : ByteArray) (p k : Nat) (h : k ≤ s.size) : (s.extract p k).size = k - p := by
  rw [Lib.size_eq, Lib.extract_data, List.length_take, List.length_drop, ← Lib.size_eq]; omega
theorem at_get (s : ByteArray) (k : Nat) (h : k < s.size) : s.data.toList[k]? = some (s[k]'h) := by
  rw [Array.getElem?_toList]; exact Array.getElem?_eq_getElem h
theorem upTo_step (s : ByteArray) (p k : Nat) (hpk : p ≤ k) (hk : k < s.size) (hn : ((s.data.toList.drop p).take (k - p)).any Lib.isLowerB = false) (hl : Lib.isLowerB (s[k]'hk) = true) :
    upTo s p ++ Lib.strCells (s.extract p k) ++ [Value.int .u8 (((s[k]'hk).toNat : Int) - 32)] = upTo s (k + 1) := by
  unfold upTo
  rw [← Lib.map_stretch Lib.upperB Lib.isLowerB Lib.upperB_of_not s.data.toList p k _ hpk (at_get s k hk) hn, Lib.byteCells_append, Lib.byteCells_append, Lib.strCells_eq, Lib.extract_data, ← Lib.upperB_int _ hl]
  rfl
theorem upTo_end (s : ByteArray) (p : Nat) (hp : p ≤ s.size) (hn : ((s.data.toList.drop p).take (s.size - p)).any Lib.isLowerB = false) :
    upTo s p ++ Lib.strCells (s.extract p s.size) = Lib.byteCells (s.data.toList.map Lib.upperB) := by
  have hfull : (s.data.toList.drop p).take (s.size - p) = s.data.toList.drop p := List.take_of_length_le (by rw [List.length_drop, ← Lib.size_eq]; omega)
  rw [hfull] at hn
  unfold upTo
  rw [← Lib.map_rest Lib.upperB Lib.isLowerB Lib.upperB_of_not s.data.toList p hn, Lib.byteCells_append, Lib.strCells_eq, Lib.extract_data, hfull]
theorem noneUp (s : ByteArray) (p k : Nat) (hpk : p ≤ k) (hk : k < s.size) (hn : ((s.data.toList.drop p).take (k - p)).any Lib.isLowerB = false) (hl : Lib.isLowerB (s[k]'hk) = false) :
    ((s.data.toList.drop p).take (k + 1 - p)).any Lib.isLowerB = false := by
  have e2 : (s.data.toList.drop p)[k - p]? = some (s[k]'hk) := by
    rw [List.getElem?_drop, show p + (k - p) = k by omega]
    exact at_get s k hk
  rw [show k + 1 - p = (k - p) + 1 by omega, Lib.any_take_succ _ _ _ _ e2, hn, hl]
  rfl
theorem strNil (s : ByteArray) (p : Nat) (h : p ≤ s.size) : Lib.strCells (s.extract p p) = [] := List.eq_nil_of_length_eq_zero (by rw [Lib.strCells_length, extract_len s p p h]; omega)
set_option maxHeartbeats 4000000 in
set_option maxRecDepth 100000 in
theorem toUpper_calls (s : ByteArray) (w : World) (hs : s.size ≤ 140737488355328) (hascii : ∀ (j : Nat) (b : UInt8), s.data.toList[j]? = some b → b.toNat < 128) :
    Calls Tryz.prog 42 #[.string s] w fun e w' => e = .returned (.string ⟨(Lib.toUpperA s.data.toList).toArray⟩) ∧ Below w.heap.size w w' := by
  have HA := hidU hascii
  clear hascii
  go_enter Tryz.func42, Tryz.ntmps42
  go_wp2
  go_loop [3, 4, 5] (fun a h i => ∃ k : Nat, k ≤ s.size ∧ a = .bool true ∧ h = .bool ((s.data.toList.take k).any Lib.isLowerB) ∧ i = .int .i64 k) (fun _ _ i => s.size - (intOf i).toNat)
  case atStart => exact ⟨0, Nat.zero_le _, rfl, rfl, rfl⟩
  case round =>
    obtain ⟨k, hk, rfl, rfl, rfl⟩ := hrel
    generalize hH : (s.data.toList.take k).any Lib.isLowerB = H
    by_cases hlt : k < s.size
    · have hb := at_get s k hlt
      have h128 : ¬ (128 : Int) ≤ ((s[k]'hlt).toNat : Int) := by have := HA.out k _ hb; omega
      have Hn := hidU (show (s.data.toList.take (k + 1)).any Lib.isLowerB = (H || (decide ((97 : Int) ≤ ((s[k]'hlt).toNat : Int)) && decide (((s[k]'hlt).toNat : Int) ≤ 122))) by rw [Lib.any_take_succ _ _ _ _ hb, hH, Lib.isLowerB_int])
      clear hb hH
      go_wp2
      all_goals (
        refine ⟨⟨k + 1, by omega, rfl, ?_, by go_num⟩, by simp [intOf]; omega⟩
        rw [Hn.out]
        first
          | (simp_all; done)
          | (simp_all; omega))
    have hke : k = s.size := by omega
    subst hke
    rw [show s.data.toList.take s.size = s.data.toList by rw [Lib.size_eq, List.take_length]] at hH
    have HH := hidU hH
    clear hH
    cases H with
    | false =>
      go_wp2
      go_ret
      refine ⟨?_, Below.refl _ _⟩
      show Ending.returned (Value.string s) = _
      rw [Lib.toUpperA, Lib.map_of_none Lib.upperB Lib.isLowerB Lib.upperB_of_not _ HH.out, Lib.mk_data]
    | true =>
      go_wp2_with (go_at_call 74; refine (Any.Builder_Grow_fresh bLay165 bX165 w.heap.size w.heap.size s.size _ (Nat.le_refl _) (heap_alloc_new w _) (by simp) (by omega)).mono ?_)
      rintro e w1 rfl h1 hb1
      have H1 := hidU (Or.inr h1 : IsB w.heap.size (upTo s 0) w1)
      have Hb1 := hidU (((Below.refl w.heap.size w).alloc (Nat.le_refl _) _).trans hb1)
      clear h1 hb1
      go_wp2
      go_loopw [8, 9] (fun pos i wr => ∃ p k : Nat, p ≤ k ∧ k ≤ s.size ∧ pos = .int .i64 p ∧ i = .int .i64 k ∧ Hid (IsB w.heap.size (upTo s p) wr) ∧ Hid (((s.data.toList.drop p).take (k - p)).any Lib.isLowerB = false) ∧ Hid (Below w.heap.size w wr)) (fun _ i _ => s.size - (intOf i).toNat)
      case atStart => exact ⟨0, 0, Nat.le_refl _, Nat.zero_le _, rfl, rfl, H1, rfl, Hb1⟩
      case round =>
        obtain ⟨p, k, hpk, hk2, rfl, rfl, HB, HN, HW⟩ := hrel
        have hlp := upTo_length s p (by omega)
        have hBw : w.heap.size ≤ wr.heap.size := HW.out.size
        by_cases hlt2 : k < s.size
        · have hxs := extract_len s p k (by omega)
          by_cases hlow : Lib.isLowerB (s[k]'hlt2) = true
          · have hr : (97 : Int) ≤ ((s[k]'hlt2).toNat : Int) ∧ ((s[k]'hlt2).toNat : Int) ≤ 122 := by rw [Lib.isLowerB_int] at hlow; simpa using hlow
            obtain ⟨h97, h122⟩ := hr
            have Hc := hidU (upTo_step s p k hpk hlt2 HN.out hlow)
            go_wp2_with fail
            · refine (Any.Builder_WriteString bLay166 bX166 w.heap.size w.heap.size _ (s.extract p k) wr HB.out (by rw [hlp, hxs]; omega) hBw).mono ?_
              rintro e w2 ⟨rfl, h2, hb2⟩
              have hBw2 : w.heap.size ≤ w2.heap.size := Nat.le_trans hBw hb2.size
              have H2 := hidU h2
              have Hb2 := hidU hb2
              clear h2 hb2
              go_wp2_with fail
              refine (Any.Builder_WriteByte bLay167 bX167 w.heap.size w.heap.size _ (((s[k]'hlt2).toNat : Int) - 32) w2 (Or.inr H2.out) (by rw [List.length_append, hlp, Lib.strCells_length, hxs]; omega) hBw2).mono ?_
              rintro e w3 ⟨rfl, h3, hb3⟩
              rw [Hc.out] at h3
              have H3 := hidU (Or.inr h3 : IsB w.heap.size _ w3)
              have Hb3 := hidU ((HW.out.trans Hb2.out).trans hb3)
              clear h3 hb3
              go_wp2
              exact ⟨⟨k + 1, k + 1, Nat.le_refl _, by omega, by go_num, by go_num, H3, by simp [Hid], Hb3⟩, by simp [intOf]; omega⟩
            have hpe : p = k := by omega
            subst hpe
            refine (Any.Builder_WriteByte bLay167 bX167 w.heap.size w.heap.size _ (((s[p]'hlt2).toNat : Int) - 32) wr HB.out (by rw [hlp]; omega) hBw).mono ?_
            rintro e w3 ⟨rfl, h3, hb3⟩
            have hc' := Hc.out
            rw [strNil s p (by omega), List.append_nil] at hc'
            rw [hc'] at h3
            have H3 := hidU (Or.inr h3 : IsB w.heap.size _ w3)
            have Hb3 := hidU (HW.out.trans hb3)
            clear h3 hb3 hc'
            go_wp2
            exact ⟨⟨p + 1, p + 1, Nat.le_refl _, by omega, by go_num, by go_num, H3, by simp [Hid], Hb3⟩, by simp [intOf]; omega⟩
          have hlow' : Lib.isLowerB (s[k]'hlt2) = false := by simpa using hlow
          have hnot : ¬ ((97 : Int) ≤ ((s[k]'hlt2).toNat : Int) ∧ ((s[k]'hlt2).toNat : Int) ≤ 122) := by
            have h := hlow'
            rw [Lib.isLowerB_int] at h
            simpa using h
          have Hs := hidU (noneUp s p k hpk hlt2 HN.out hlow')
          go_wp2
          all_goals first
            | exact ⟨⟨p, k + 1, by omega, by omega, rfl, by go_num, HB, Hs, HW⟩, by simp [intOf]; omega⟩
            | (exfalso; omega)
        have hke2 : k = s.size := by omega
        subst hke2
        have hxs := extract_len s p s.size (Nat.le_refl _)
        have hne : s.data.toList.map Lib.upperB ≠ [] := by
          intro h0
          have h1 : s.data.toList = [] := by simpa using h0
          have h2 := HH.out
          rw [h1] at h2
          cases h2
        have Hc := hidU (upTo_end s p hpk HN.out)
        go_wp2_with fail
        · refine (Any.Builder_WriteString bLay166 bX166 w.heap.size w.heap.size _ (s.extract p s.size) wr HB.out (by rw [hlp, hxs]; omega) hBw).mono ?_
          rintro e w2 ⟨rfl, h2, hb2⟩
          rw [Hc.out] at h2
          have H2 := hidU (Or.inr h2 : IsB w.heap.size _ w2)
          have Hb2 := hidU (HW.out.trans hb2)
          clear h2 hb2
          go_wp2_with fail
          refine (Any.Builder_String bLay169 bX169 w.heap.size w.heap.size _ w2 H2.out hne).mono ?_
          rintro e w3 ⟨rfl, hb3⟩
          have Hb3 := hidU (Hb2.out.trans hb3)
          clear hb3
          go_wp2
          go_ret
          exact ⟨rfl, Hb3.out⟩
        have hpe : p = s.size := by omega
        subst hpe
        have hc' := Hc.out
        rw [strNil s s.size (Nat.le_refl _), List.append_nil] at hc'
        have hB' := HB.out
        rw [hc'] at hB'
        refine (Any.Builder_String bLay169 bX169 w.heap.size w.heap.size _ wr hB' hne).mono ?_
        rintro e w3 ⟨rfl, hb3⟩
        have Hb3 := hidU (HW.out.trans hb3)
        clear hb3
        go_wp2
        go_ret
        exact ⟨rfl, Hb3.out⟩
end Go.V
/- A call's contract out of a law over the program. -/
namespace Go.V
open Go.RowKit Go.Proofs
theorem PC.of_below {C : Ctx} {f : FuncId} {args : List D} {d : D} {v : Value} (he : Enters C.P f) (hv : ∀ (w : World) (L : Nat → Prop) (μ : List Nat) (H : Heap), VR w L μ H d v)
    (h : ∀ (w : World) (L : Nat → Prop) (μ : List Nat) (H : Heap) (vs : List Value), VRs w L μ H args vs → Calls C.P f vs.toArray w fun e w' => e = .returned v ∧ Below w.heap.size w w') : PC C f args (fun o => o = .ret d) := by
  intro H
  refine ⟨he, fun L0 w μ vs hs ha => (h w _ μ H vs ha).mono fun e w' ⟨h1, h2⟩ => ?_⟩
  have hevo : Evo w w' μ μ H H :=
    ⟨h2.os, h2.tape, h2.output, h2.size, fun k hk _ => h2.block k hk, fun k _ hk => hk, fun _ _ h => h, fun i x hx => ⟨x, hx, fun o e => ⟨o, e, rfl, rfl, rfl, fun b cur _ hw => ⟨cur, by rw [h2.block b (Array.getElem?_eq_some_iff.1 hw).1]; exact hw, rfl⟩⟩⟩⟩
  exact ⟨.ret d, H, μ, ⟨rfl, rfl⟩, hs.next hevo hs.len (fun i o b k1 k2 => (hs.obj i o b k1 k2).same (h2.block b (hs.block_lt k1 k2))) hs.inj hs.own, ⟨v, h1, hv _ _ _ _⟩, hevo⟩
end Go.V
/- A contract over a heap of one object, met over any heap that holds it. -/
namespace Go.V
open Go.RowKit Go.Proofs
theorem puresAt : ∀ {l : List D} {j : Nat} {d : D}, D.pure.pures l = true → l[j]? = some d → d.pure = true
  | [], _, _, _, h => by simp at h
  | c :: l, j, d, h, hj => by
    simp only [D.pure.pures, Bool.and_eq_true] at h
    cases j with
    | zero => simp at hj; subst hj; exact h.1
    | succ j => simp only [List.getElem?_cons_succ] at hj; exact puresAt h.2 hj
theorem ObjR.move {w' w : World} {L : Nat → Prop} {μ μ' : List Nat} {H H' : Heap} {o : AObj} {b : Nat} (hsp : o.sp = none) (hp : D.pure.pures o.cells = true) (h : ObjR w' w L μ H o b) : ObjR w' w L μ' H' o b := by
  obtain ⟨cur, h1, h2, h3⟩ := h.row hsp
  refine .of_row hsp ⟨cur, h1, h2, fun j d hd => ?_⟩
  obtain ⟨v, k1, k2, k3⟩ := h3 j d hd
  exact ⟨v, k1, k2, VR.lift (VR.drop (puresAt hp hd) k3)⟩
theorem HC.frame1 {C : Ctx} {f : FuncId} {o o' : AObj} {n : Nat} {r : D} (hc : HC C f [some o] [.row 0 n] (fun x H' => x = .ret r ∧ H' = [some o'])) (ho : o.live = true) (ho' : o'.live = true) (hsp : o.sp = none) (hsp' : o'.sp = none) (hp : D.pure.pures o.cells = true) (hp' : D.pure.pures o'.cells = true) (hr : r.pure = true) {H : Heap} {id : Nat} (hid : H[id]? = some (some o)) :
    HC C f H [.row id n] (fun x H' => x = .ret r ∧ H' = H.set id (some o')) := by
  refine ⟨hc.1, fun L0 w μ vs hs ha => ?_⟩
  have hil : id < H.length := (List.getElem?_eq_some_iff.1 hid).1
  obtain ⟨b, hb⟩ : ∃ b, μ[id]? = some b := ⟨μ[id]'(by rw [hs.len]; exact hil), by simp [hs.len, hil]⟩
  let L1 : Nat → Prop := fun b' => L0 b' ∨ (liveB μ H b' ∧ b' ≠ b)
  have hlb : liveB μ H b := ⟨id, o, hid, ho, hb⟩
  have hl1 : ∀ b', liveB [b] [some o] b' ↔ b' = b := by
    intro b'
    constructor
    · rintro ⟨i, oi, h1, _, h3⟩
      cases i with
      | zero => simp at h3; exact h3.symm
      | succ i => simp at h3
    rintro rfl; exact ⟨0, o, rfl, ho, rfl⟩
  have hforb : forb L1 [b] [some o] = forb L0 μ H := by
    funext b'
    apply propext
    constructor
    · rintro (h | h)
      · rcases h with h | h
        · exact .inl h
        exact .inr h.1
      rw [(hl1 b').1 h]; exact .inr hlb
    rintro (h | h)
    · exact .inl (.inl h)
    by_cases e : b' = b
    · exact .inr ((hl1 b').2 e)
    exact .inl (.inr ⟨h, e⟩)
  have hs1 : SR C L1 w [b] [some o] := by
    refine ⟨rfl, fun i oi bi h1 h2 => ?_, fun i j oi oj bi h1 h2 h3 h4 _ => ?_, fun i oi bi h1 h2 => ?_, fun b' hb' => ?_, fun g cs hg => ?_⟩
    · cases i with
      | zero =>
        simp at h1 h2; subst h1; subst h2
        rw [hforb]
        exact (hs.obj id _ _ hid hb).move hsp hp
      | succ i => simp at h1
    · cases i <;> cases j <;> simp at h1 h2 ⊢
    · cases i with
      | zero =>
        simp at h2; subst h2
        rintro (h | h)
        · exact hs.own id o _ hid hb h
        exact h.2 rfl
      | succ i => simp at h1
    · rcases hb' with h | h
      · exact hs.lim _ h
      obtain ⟨i, oi, h1, h2, h3⟩ := h.1
      exact hs.block_lt h1 h3
    rw [hforb]; exact hs.glob g cs hg
  have ha1 : VRs w (forb L1 [b] [some o]) [b] [some o] [.row 0 n] vs := by
    simp only [VRs] at ha ⊢
    obtain ⟨v, us, rfl, h1, rfl⟩ := ha
    refine ⟨v, [], rfl, ?_, rfl⟩
    simp only [VR] at h1 ⊢
    obtain ⟨x, hx, h2⟩ := h1
    rw [hid] at hx
    injection hx with hx
    subst hx
    obtain ⟨b', cap, cur, k1, k2⟩ := h2 o rfl
    rw [hb] at k1
    injection k1 with k1
    subst k1
    exact ⟨some o, rfl, fun o1 e => by injection e with e; subst e; exact ⟨b, cap, cur, rfl, k2⟩⟩
  refine (hc.2 L1 w [b] vs hs1 ha1).mono ?_
  rintro e w' ⟨x, H1, μ1, ⟨rfl, rfl⟩, hs', ⟨v, he, hv⟩, hevo⟩
  have hμ : μ1 = [b] := by
    have h1 := hevo.map 0 b rfl
    have h2 := hs'.len
    match μ1, h1, h2 with
    | [c], h1, _ => simp at h1; rw [h1]
  subst hμ
  have hun : ∀ k, k < w.heap.size → k ≠ b → w'.heap[k]? = w.heap[k]? := fun k hk hkb => hevo.chg k hk fun h => hkb ((hl1 k).1 h)
  have hother : ∀ (i : Nat) (oi : AObj) (k : Nat), i ≠ id → H[i]? = some (some oi) → μ[i]? = some k → k ≠ b := by
    intro i oi k h1 h2 h3 e
    subst e
    exact h1 (hs.inj id i o oi k hid h2 hb h3 ho).symm
  have hcase : ∀ (i : Nat) (oi : AObj), (H.set id (some o'))[i]? = some (some oi) → (i ≠ id ∧ H[i]? = some (some oi)) ∨ (i = id ∧ oi = o') := by
    intro i oi h
    by_cases e : id = i
    · subst e; rw [List.getElem?_set_self hil] at h; injection h with h; injection h with h; exact .inr ⟨rfl, h.symm⟩
    rw [List.getElem?_set_ne e] at h; exact .inl ⟨fun h => e h.symm, h⟩
  have hbig : Evo w w' μ μ H (H.set id (some o')) := by
    refine ⟨hevo.os, hevo.tape, hevo.output, hevo.size, fun k hk hkl => hun k hk (by rintro rfl; exact hkl hlb), fun k hk hkl => ?_, fun _ _ h => h, fun i x hx => ?_⟩
    · obtain ⟨i, oi, h1, h2, h3⟩ := hkl
      rcases hcase i oi h1 with ⟨_, k1⟩ | ⟨rfl, rfl⟩
      · exact ⟨i, oi, k1, h2, h3⟩
      rw [hb] at h3; injection h3 with h3; subst h3; exact hlb
    by_cases e : id = i
    · subst e
      rw [hid] at hx
      injection hx with hx
      subst hx
      obtain ⟨x', hx', h4⟩ := hevo.heap 0 (some o) rfl
      simp at hx'
      subst hx'
      refine ⟨some o', by rw [List.getElem?_set_self hil], fun o'' e => ?_⟩
      obtain ⟨o1, q1, q2, q3, q4, q5⟩ := h4 o'' e
      injection q1 with q1
      subst q1
      exact ⟨o, rfl, q2, q3, q4, fun k cur hk hw => q5 k cur (by rw [hb] at hk; exact hk) hw⟩
    refine ⟨x, by rw [List.getElem?_set_ne e]; exact hx, fun o'' h => ⟨o'', h, rfl, rfl, rfl, fun k cur hk hw => ⟨cur, ?_, rfl⟩⟩⟩
    subst h
    rw [hun k (Array.getElem?_eq_some_iff.1 hw).1 (hother i o'' k (fun h => e h.symm) hx hk)]; exact hw
  have hsr : SR C L0 w' μ (H.set id (some o')) := by
    have st := hbig.step L0
    refine ⟨by rw [List.length_set]; exact hs.len, fun i oi k h1 h2 => ?_, fun i j oi oj k h1 h2 h3 h4 hl => ?_, fun i oi k h1 h2 => ?_, fun b' hb' => Nat.lt_of_lt_of_le (hs.lim b' hb') hbig.size, fun g cs hg => ?_⟩
    · rcases hcase i oi h1 with ⟨k0, k1⟩ | ⟨rfl, rfl⟩
      · exact ((hs.obj i oi k k1 h2).same (hun k (hs.block_lt k1 h2) (hother i oi k k0 k1 h2))).step st
      rw [hb] at h2; injection h2 with h2; subst h2
      have hf2 : forb L1 [b] [some oi] = forb L0 μ (H.set i (some oi)) := by
        have e1 : forb L1 [b] [some oi] = forb L1 [b] [some o] := by
          funext b'
          apply propext
          unfold forb
          constructor
          · rintro (h | ⟨j, oj, q1, q2, q3⟩)
            · exact .inl h
            right
            cases j with
            | zero => simp at q3; subst q3; exact (hl1 _).2 rfl
            | succ j => simp at q3
          rintro (h | h)
          · exact .inl h
          right; rw [(hl1 b').1 h]; exact ⟨0, oi, rfl, ho', rfl⟩
        rw [e1, hforb]
        funext b'
        apply propext
        unfold forb
        constructor
        · rintro (h | ⟨j, oj, q1, q2, q3⟩)
          · exact .inl h
          right
          by_cases e : i = j
          · subst e; rw [hb] at q3; injection q3 with q3; subst q3; exact ⟨i, oi, List.getElem?_set_self hil, ho', hb⟩
          exact ⟨j, oj, by rw [List.getElem?_set_ne e]; exact q1, q2, q3⟩
        rintro (h | ⟨j, oj, q1, q2, q3⟩)
        · exact .inl h
        right
        rcases hcase j oj q1 with ⟨_, q4⟩ | ⟨rfl, rfl⟩
        · exact ⟨j, oj, q4, q2, q3⟩
        rw [hb] at q3; injection q3 with q3; subst q3; exact hlb
      have := hs'.obj 0 oi b rfl rfl
      rw [hf2] at this
      exact this.move hsp' hp'
    · rcases hcase i oi h1 with ⟨k0, k1⟩ | ⟨rfl, rfl⟩ <;> rcases hcase j oj h2 with ⟨m0, m1⟩ | ⟨rfl, rfl⟩
      · exact hs.inj i j oi oj k k1 m1 h3 h4 hl
      · rw [hb] at h4; injection h4 with h4; subst h4; exact (hother i oi _ k0 k1 h3 rfl).elim
      · rw [hb] at h3; injection h3 with h3; subst h3; exact (hother j oj _ m0 m1 h4 rfl).elim
      rfl
    · rcases hcase i oi h1 with ⟨k0, k1⟩ | ⟨rfl, rfl⟩
      · exact hs.own i oi k k1 h2
      exact hs.own i o k hid h2
    obtain ⟨h1, h2, h3⟩ := hs.glob g cs hg
    exact ⟨Nat.lt_of_lt_of_le h1 hbig.size, st.keep g h1 h2, VRL.step st.pure h1 h2 h3⟩
  refine ⟨.ret r, H.set id (some o'), μ, ⟨rfl, rfl⟩, hsr, ⟨v, he, ?_⟩, hbig⟩
  have hv0 := VR.drop hr hv
  refine VR.lift ?_
  have : Step w' w' (forb L1 [b] [some o']) (forb L0 μ (H.set id (some o'))) [] [] [] [] := by
    refine ⟨Nat.le_refl _, fun _ _ _ => rfl, fun b' _ h => ?_, fun _ _ h => by simp at h, HStep.nil _ _ _⟩
    rintro (h' | ⟨j, oj, q1, q2, q3⟩)
    · exact h (.inl (.inl h'))
    rcases hcase j oj q1 with ⟨q0, q4⟩ | ⟨rfl, rfl⟩
    · exact h (.inl (.inr ⟨⟨j, oj, q4, q2, q3⟩, hother j oj b' q0 q4 q3⟩))
    rw [hb] at q3; injection q3 with q3; subst q3; exact h (.inr ⟨0, oj, rfl, ho', rfl⟩)
  exact VR.step this hv0
end Go.V
/- SLICES that are made with more room than length; rows that grow behind others. -/
namespace Go.V
open Go.RowKit
section
variable {C : Ctx} {env : List D} {H H' : Heap} {dst : Option Tmp} {ty : TypeId} {pos : String} {aft : Array Edge} {gd : Option (Nat × Bool)} {x y : Operand} {T e : TypeId} {descE : TypeDesc} {bytesE : Nat} {zeroE : Value}
end
end Go.V
/- STATEMENTS THAT DRAW THEIR ORDER, some of whose operations write or make memory. -/
namespace Go.V
open Go.RowKit
def upd (S : Nat → Bool) (i : Nat) : Nat → Bool := fun j => bif Nat.beq j i then true else S j
theorem upd_same (S : Nat → Bool) (i : Nat) : upd S i i = true := by unfold upd; rw [Nat.beq_refl]; rfl
theorem upd_ne (S : Nat → Bool) {i j : Nat} (h : j ≠ i) : upd S i j = S j := by
  unfold upd
  have : Nat.beq j i = false := by
    cases hb : Nat.beq j i with
    | false => rfl
    | true => exact (h (Nat.eq_of_beq_eq_true hb)).elim
  rw [this]; rfl
theorem draw_all {l : List Oper} {m : Nat} (ok : OkD l m) (hm : m ≤ l.length) (P : (Nat → Bool) → List Nat → Prop)
    (hfull : P (fun j => decide (j < m)) (List.range' m (l.length - m)))
    (hstep : ∀ (S : Nat → Bool) (i : Nat) (rest : List Nat), i < m → S i = false → (∀ j, S j = true → j < m) → (∀ j, hasE l i j = true → S j = true) → (∀ j, S j = true → ∀ i', hasE l j i' = true → S i' = true) → P (upd S i) rest → P S (i :: rest)) :
    ∀ (fuel t : Nat) (listed : Array Bool), listed.size = l.length → listed.toList.count false = fuel → (∀ j, lst listed j = true → j < m ∧ ∀ i, hasE l j i = true → lst listed i = true) →
      P (lst listed) (Region.linearise.go .any l.toArray fuel t listed []) := by
  have full : ∀ (fuel t : Nat) (listed : Array Bool), listed.size = l.length → listed.toList.count false = fuel → (∀ j, lst listed j = true → j < m ∧ ∀ i, hasE l j i = true → lst listed i = true) → (∀ j, j < m → lst listed j = true) →
      P (lst listed) (Region.linearise.go .any l.toArray fuel t listed []) := by
    intro fuel t listed hsz hcnt hin hall
    have hlst : lst listed = fun j => decide (j < m) := by
      funext j
      cases h : lst listed j with
      | true => simp [(hin j h).1]
      | false =>
        cases h2 : decide (j < m) with
        | false => rfl
        | true => rw [hall j (by simpa using h2)] at h; cases h
    have hget : ∀ j, j < l.length → listed[j]? = some (decide (j < m)) := by
      intro j hj
      have := congrFun hlst j
      simp only [lst, Array.getD_eq_getD_getElem?] at this
      have hx : listed[j]? = some (listed[j]'(by omega)) := by simp [hsz, hj]
      rw [hx] at this ⊢
      simpa using this
    have hlist : listed.toList = List.replicate m true ++ List.replicate (l.length - m) false := by
      apply List.ext_getElem?
      intro j
      rw [List.getElem?_append, List.getElem?_replicate, List.getElem?_replicate, Array.getElem?_toList]
      simp only [List.length_replicate]
      by_cases h : j < m
      · rw [hget j (by omega)]; simp [h]
      by_cases h2 : j < l.length
      · rw [hget j h2]; simp [h]; omega
      rw [Array.getElem?_eq_none (by omega)]; simp [h]; omega
    have hfuel : l.length - m ≤ fuel := by
      rw [hlist] at hcnt
      simp [List.count_append, List.count_replicate] at hcnt
      omega
    rw [go_suf ok fuel m t listed hsz hget (Nat.le_refl _) hfuel, hlst]
    exact hfull
  intro fuel
  induction fuel with
  | zero =>
    intro t listed hsz hcnt hin
    refine full 0 t listed hsz hcnt hin fun j hj => ?_
    have : false ∉ listed.toList := List.count_eq_zero.1 hcnt
    unfold lst
    have hx : listed[j]? = some (listed[j]'(by omega)) := by simp
    rw [Array.getD_eq_getD_getElem?, hx]
    cases hb : listed[j]'(by omega) with
    | true => rfl
    | false => exact (this (by rw [← hb]; simp)).elim
  | succ fuel ih =>
    intro t listed hsz hcnt hin
    by_cases hall : ∀ j, j < m → lst listed j = true
    · exact full (fuel + 1) t listed hsz hcnt hin hall
    obtain ⟨p, hp1, hp2, hp3⟩ : ∃ j, j < m ∧ lst listed j = false ∧ ∀ i, i < j → lst listed i = true := by
      apply least
      apply Classical.byContradiction
      intro hn
      apply hall
      intro j hj
      cases h : lst listed j with
      | true => rfl
      | false => exact (hn ⟨j, hj, h⟩).elim
    have getOf : ∀ (d : Bool) (j : Nat), j < l.length → listed.getD j d = lst listed j := by
      intro d j hj
      have hx : listed[j]? = some (listed[j]'(by omega)) := by simp [hsz, hj]
      simp [lst, Array.getD_eq_getD_getElem?, hx]
    let rs := (List.range l.toArray.size).filter fun i => !listed.getD i true && ((l.toArray[i]?).map (·.after.all fun e => !Region.binds .any e || listed.getD e.on false)).getD false
    have hpr : p ∈ rs := by
      obtain ⟨o, ho⟩ : ∃ o, l[p]? = some o := ⟨l[p]'(by omega), by simp⟩
      have ho' : l.toArray[p]? = some o := by simpa using ho
      refine List.mem_filter.2 ⟨by simp; omega, ?_⟩
      simp only [getOf true p (by omega), hp2, Bool.not_false, Bool.true_and, ho', Option.map_some, Option.getD_some]
      apply Array.all_eq_true'.2
      intro e' he'
      cases hb : Region.binds .any e' with
      | false => rfl
      | true => simpa [lst] using hp3 e'.on (ok.back p o ho e' he' hb)
    have hlt : t % rs.length < rs.length := Nat.mod_lt _ (List.length_pos_of_mem hpr)
    have hgo : Region.linearise.go .any l.toArray (fuel + 1) t listed [] = rs[t % rs.length] :: Region.linearise.go .any l.toArray fuel (t / rs.length) (listed.setIfInBounds rs[t % rs.length] true) [] := by
      simp only [Region.linearise.go]
      have hx : rs[t % rs.length]? = some rs[t % rs.length] := by simp [hlt]
      change (match rs[t % rs.length]? with
        | some i => Region.linearise.go .any l.toArray fuel (t / rs.length) (listed.setIfInBounds i true) [i]
        | none => [].reverse) = _
      rw [hx]
      simp only
      rw [linearise_go_acc, List.reverse_singleton, List.singleton_append]
    rw [hgo]
    generalize hi : rs[t % rs.length] = i
    have himem : i ∈ rs := by rw [← hi]; exact List.getElem_mem hlt
    obtain ⟨hir, hready⟩ := List.mem_filter.1 himem
    have hin' : i < l.length := by simpa using hir
    obtain ⟨o, ho⟩ : ∃ o, l[i]? = some o := ⟨l[i], by simp [hin']⟩
    have ho' : l.toArray[i]? = some o := by simpa using ho
    simp only [getOf true i hin', ho', Option.map_some, Option.getD_some, Bool.and_eq_true, Bool.not_eq_true'] at hready
    obtain ⟨hnl, hdep⟩ := hready
    have him : i < m := by
      rcases Nat.lt_or_ge i m with h | h
      · exact h
      exfalso
      have := reach_listed (fun k hk j hj => (hin k hk).2 j hj) ho 5 (ok.suf i h hin' p (by omega)) hdep
      rw [hp2] at this
      cases this
    have hnew : lst (listed.setIfInBounds i true) = upd (lst listed) i := by
      funext j
      by_cases e : j = i
      · subst e
        rw [upd_same]
        unfold lst
        rw [Array.getD_eq_getD_getElem?, Array.getElem?_setIfInBounds]
        simp [hsz, hin']
      rw [upd_ne _ e]
      unfold lst
      rw [Array.getD_eq_getD_getElem?, Array.getD_eq_getD_getElem?, Array.getElem?_setIfInBounds]
      have : ¬ i = j := fun h => e h.symm
      simp [this]
    have hcnt' : (listed.setIfInBounds i true).toList.count false = fuel := by
      have hx : listed.toList[i]? = some false := by
        have := getOf true i hin'
        rw [hnl, Array.getD_eq_getD_getElem?] at this
        have hy : listed[i]? = some (listed[i]'(by omega)) := by simp
        rw [hy] at this
        simp only [Option.getD_some] at this
        rw [Array.getElem?_toList, hy, this]
      rw [Array.toList_setIfInBounds, List.count_set (by simp; omega)]
      have : listed.toList[i]'(by simp; omega) = false := (List.getElem?_eq_some_iff.1 hx).2
      rw [this]
      simp [hcnt]
    refine hstep (lst listed) i _ him hnl (fun j hj => (hin j hj).1) (fun j hj => hasE_listed ho hj hdep) (fun j hj => (hin j hj).2) ?_
    rw [← hnew]
    refine ih _ _ (by simp [hsz]) hcnt' fun j hj => ?_
    rw [hnew] at hj
    by_cases e : j = i
    · subst e
      refine ⟨him, fun i' hi' => ?_⟩
      rw [hnew]
      by_cases e2 : i' = j
      · rw [e2]; exact upd_same _ _
      rw [upd_ne _ e2]; exact hasE_listed ho hi' hdep
    rw [upd_ne _ e] at hj
    obtain ⟨a1, a2⟩ := hin j hj
    refine ⟨a1, fun i' hi' => ?_⟩
    rw [hnew]
    by_cases e2 : i' = i
    · rw [e2]; exact upd_same _ _
    rw [upd_ne _ e2]; exact a2 i' hi'
/-! ### Blocks that are made, but are not yet objects of the abstract heap -/
def LP (L0 : Nat → Prop) (β : Nat → Nat) (pe : Nat → Bool) : Nat → Prop := fun b => L0 b ∨ ∃ j, pe j = true ∧ β j = b
abbrev Alc := Tmp × TypeId × List D
structure AS (C : Ctx) (Q : Post) (ops : Array Oper) (k : List Item) (env : List D) (H : Heap) (df : List ADef) (al : Nat → Option Alc) (pe : Nat → Bool) (order : List Nat) : Prop where
  mk :: (out : ∀ (L0 : Nat → Prop) (w0 : World) (μ0 : List Nat) (H0 : Heap) (w : World) (μ : List Nat) (a : Act) (β : Nat → Nat),
    (∀ i j, pe i = true → pe j = true → β i = β j → i = j) →
    (∀ j, pe j = true → ¬ L0 (β j) ∧ w0.heap.size ≤ β j ∧ ∀ (i : Nat) (o : AObj), H[i]? = some (some o) → μ[i]? ≠ some (β j)) →
    (∀ j t T cs, pe j = true → al j = some (t, T, cs) → a.tmps.toList[t]? = some (.pointer (some ⟨β j, 0, none⟩)) ∧ ∃ cur : Array Value, w.heap[β j]? = some (.cells cur T (0, 0)) ∧ cs.length ≤ cur.size ∧
      ∀ (i : Nat) (d : D), cs[i]? = some d → ∃ v : Value, cur[i]? = some v ∧ v.oneCell' = true ∧ VR w (forb (LP L0 β pe) μ H) μ H d v) →
    SR C (LP L0 β pe) w μ H → VRs w (forb (LP L0 β pe) μ H) μ H env a.tmps.toList → DfR w (forb (LP L0 β pe) μ H) μ H df a.defers → Evo w0 w μ0 μ H0 H → ∀ (b : Frame) (cs : List Frame), RdOk μ b Q.rd →
    ∃ e a' w', QRel C L0 w0 μ0 H0 Q e a' w' ∧ ArrR C.P (lone (b.atR a (.inRegion ops order :: k)) cs w) b cs e a' w')
theorem Step.sub {w : World} {L L' : Nat → Prop} {μ : List Nat} {H : Heap} (h : ∀ b, L' b → L b) : Step w w L L' μ μ H H :=
  ⟨Nat.le_refl _, fun _ _ _ => rfl, fun b _ hb hb' => hb (h b hb'), fun _ _ h => h, HStep.refl _ _ _⟩
theorem forb_sub {L L' : Nat → Prop} {μ : List Nat} {H : Heap} (h : ∀ b, L' b → L b) : ∀ b, forb L' μ H b → forb L μ H b := fun b hb => hb.imp (h b) id
theorem SR.shrink {C : Ctx} {L L' : Nat → Prop} {w : World} {μ : List Nat} {H : Heap} (hs : SR C L w μ H) (h : ∀ b, L' b → L b) : SR C L' w μ H := by
  have st : Step w w (forb L μ H) (forb L' μ H) μ μ H H := Step.sub (forb_sub h)
  refine ⟨hs.len, fun i o b h1 h2 => ((hs.obj i o b h1 h2)).step st, hs.inj, fun i o b h1 h2 hL => hs.own i o b h1 h2 (h b hL), fun b hb => hs.lim b (h b hb), fun g cs hg => ?_⟩
  obtain ⟨h1, h2, h3⟩ := hs.glob g cs hg
  exact ⟨h1, fun hf => h2 (forb_sub h _ hf), VRL.step st.pure h1 h2 h3⟩
section
variable {C : Ctx} {Q : Post} {ops : Array Oper} {k : List Item} {env : List D} {H : Heap} {df : List ADef} {al : Nat → Option Alc} {pe : Nat → Bool} {i : Nat} {rest : List Nat} {o : Oper}
theorem put_other {a : Act} {dst : Option Tmp} {v u : Value} {t : Tmp} (h : dst ≠ some t) (hu : a.tmps.toList[t]? = some u) : (a.put dst v).tmps.toList[t]? = some u := by
  cases dst with
  | none => exact hu
  | some t' =>
    have hne : t' ≠ t := fun e => h (by rw [e])
    simp only [Act.put, Array.toList_setIfInBounds]
    rw [List.getElem?_set_ne hne]; exact hu
theorem AS.op {K KP : D → Heap → Prop} (ho : ops[i]? = some o) (hg : gOk ops.toList env o.guard = some true) (h : OpH C o env H K KP) (hdst : ∀ j t T cs, pe j = true → al j = some (t, T, cs) → o.dst ≠ some t)
    (hk : ∀ d H', K d H' → AS C Q ops k (envPut env o.dst d) H' df al pe rest) (hp : ∀ d H', KP d H' → Q (.pan d) env H' df) : AS C Q ops k env H df al pe (i :: rest) := by
  refine ⟨fun L0 w0 μ0 H0 w μ a β hβ hf hpd hs hv hd he b cs hrd => ?_⟩
  have hw := gOk_ok (C := C) hv hg
  have h1 := h.out (LP L0 β pe) w μ a hs hv
  rcases op_step (rest := rest) ho hw h1 (by rintro ⟨a0, w1, v, d, H', μ', h2, _⟩; cases h2) b (.inr fun dd w' ⟨v, d, H', μ', _, h2, _⟩ => no_defer h2) k cs with
    ⟨a', w', ⟨v, d, H', μ', hK, rfl, hs', hd', he'⟩, hst⟩ | ⟨chain, w', todo, ⟨v, d, H', μ', hch, _, hK, hs', hd', he'⟩, hst⟩
  · have hst' := he'.step (LP L0 β pe)
    have hbk : ∀ j, pe j = true → w'.heap[β j]? = w.heap[β j]? := fun j hj => he'.chg _ (hs.lim _ (.inr ⟨j, hj, rfl⟩)) (fun ⟨i', o', q1, _, q3⟩ => (hf j hj).2.2 i' o' q1 q3)
    obtain ⟨e, a', w'', h3, h4⟩ := (hk d H' hK).out L0 w0 μ0 H0 w' μ' (a.put o.dst v) β hβ (fun j hj => ⟨(hf j hj).1, (hf j hj).2.1, fun i' o' q1 q3 => hs'.own i' o' _ q1 q3 (.inr ⟨j, hj, rfl⟩)⟩)
      (fun j t T cs2 hj hal => by
        obtain ⟨p1, cur, p2, p3, p4⟩ := hpd j t T cs2 hj hal
        exact ⟨put_other (hdst j t T cs2 hj hal) p1, cur, by rw [hbk j hj]; exact p2, p3, fun i2 d2 hd2 => by
          obtain ⟨v2, m1, m2, m3⟩ := p4 i2 d2 hd2
          exact ⟨v2, m1, m2, VR.step hst' m3⟩⟩)
      hs' (VRs_put (VRs.step hst' hv) hd') (by rw [put_defers]; exact DfR.step hst' hd) (he.trans he') b cs (hrd.step he'.map)
    exact ⟨e, a', w'', h3, .of_steps hst h4⟩
  have hst' := he'.step (LP L0 β pe)
  injection hch with hch
  subst hch
  have hsub : ∀ b, L0 b → LP L0 β pe b := fun b hb => .inl hb
  have sst : Step w' w' (forb (LP L0 β pe) μ' H') (forb L0 μ' H') μ' μ' H' H' := Step.sub (forb_sub hsub)
  exact ⟨.panic (pan1 v), a, w', ⟨.pan d, env, H', μ', df, hp d H' hK, hs'.shrink hsub, VRs.step sst (VRs.step hst' hv), DfR.step sst (DfR.step hst' hd), ⟨v, rfl, VR.step sst hd'⟩, he.trans he'⟩, todo, hst⟩
theorem AS.skip (ho : ops[i]? = some o) (hg : gOk ops.toList env o.guard = some false) (hdst : ∀ j t T cs, pe j = true → al j = some (t, T, cs) → o.dst ≠ some t)
    (hk : AS C Q ops k (envPut env o.dst (.tup [])) H df al pe rest) : AS C Q ops k env H df al pe (i :: rest) := by
  refine ⟨fun L0 w0 μ0 H0 w μ a β hβ hf hpd hs hv hd he b cs hrd => ?_⟩
  have hw := gOk_ok (C := C) hv hg
  have hst := stepR_op_skip (P := C.P) (b := b) (a := a) (k := k) (cs := cs) (w := w) (ops := ops) (i := i) (rest := rest) (by simp [ho, hw])
  simp only [ho, Option.bind_some] at hst
  obtain ⟨e, a', w'', h3, h4⟩ := hk.out L0 w0 μ0 H0 w μ (a.put o.dst undef) β hβ hf (fun j t T cs2 hj hal => by
      obtain ⟨p1, p2⟩ := hpd j t T cs2 hj hal
      exact ⟨put_other (hdst j t T cs2 hj hal) p1, p2⟩) hs (VRs_put hv (by simp only [VR]; exact ⟨[], rfl, by simp [VRs]⟩)) (by rw [put_defers]; exact hd) he b cs hrd
  exact ⟨e, a', w'', h3, .of_steps (.one hst) h4⟩
theorem AS.alloc {t : Tmp} {T : TypeId} {te : TE} {dz : D} {ds : List D} {ty : TypeId} {pos : String} {aft : Array Edge} (ho : ops[i]? = some ⟨some t, .alloc T, ty, pos, aft, none⟩) (ht : C.ty T = some te) (hz : constD te.zero = some dz) (hd : cellsD dz = some ds) (hok : ds.all (okCell []) = true)
    (hpe : pe i = false) (hali : al i = some (t, T, ds)) (hdst : ∀ j t' T cs, pe j = true → al j = some (t', T, cs) → t ≠ t') (htl : t < env.length)
    (hk : AS C Q ops k (envPut env (some t) .any) H df al (upd pe i) rest) : AS C Q ops k env H df al pe (i :: rest) := by
  refine ⟨fun L0 w0 μ0 H0 w μ a β hβ hf hpd hs hv hdf he b cs hrd => ?_⟩
  have ti := (ty_tic ht).1
  have hrun : (execOp a.eval ⟨some t, .alloc T, ty, pos, aft, none⟩).run C.P w = .ok (.value (.pointer (some ⟨w.heap.size, 0, none⟩))) (w.alloc (.cells te.zero.cells T)) := by
    simp [execOp, Instr.alloc, ti.run_zero, newVar, newRow]
  let w' := w.alloc (.cells te.zero.cells T)
  let β' : Nat → Nat := fun j => if j = i then w.heap.size else β j
  have hwp : Oper.wp C.P ⟨some t, .alloc T, ty, pos, aft, none⟩ a w (fun a' w1 => a' = a.put (some t) (.pointer (some ⟨w.heap.size, 0, none⟩)) ∧ w1 = w') (fun _ _ _ => False) := by
    unfold Oper.wp
    rw [hrun]
    exact ⟨rfl, rfl⟩
  have hw : Region.wanted ⟨some t, .alloc T, ty, pos, aft, none⟩ (yielded ops a.tmps) = true := by simp [Region.wanted]
  rcases op_step (rest := rest) ho hw hwp (by rintro ⟨_, _, h⟩; exact h) b (.inr fun dd w1 ⟨h1, _⟩ => no_defer h1) k cs with ⟨a', w1, ⟨h1, h2⟩, hst⟩ | ⟨_, _, _, h, _⟩
  · subst h2
    subst h1
    obtain ⟨sK, eK⟩ := hs.allocK (.cells te.zero.cells T)
    have hpi : ∀ j, upd pe i j = true → j = i ∨ (j ≠ i ∧ pe j = true) := fun j hj => by
      by_cases e : j = i
      · exact .inl e
      rw [upd_ne _ e] at hj; exact .inr ⟨e, hj⟩
    have hβi : β' i = w.heap.size := by simp [β']
    have hβn : ∀ j, j ≠ i → β' j = β j := fun j h => by simp [β', h]
    have hlt : ∀ j, pe j = true → β j < w.heap.size := fun j hj => hs.lim _ (.inr ⟨j, hj, rfl⟩)
    have hLP : ∀ b', LP L0 β' (upd pe i) b' → LP L0 β pe b' ∨ b' = w.heap.size := by
      rintro b' (h | ⟨j, hj, rfl⟩)
      · exact .inl (.inl h)
      rcases hpi j hj with rfl | ⟨hne, hj'⟩
      · right; exact hβi
      left; rw [hβn j hne]; exact .inr ⟨j, hj', rfl⟩
    have hforb : ∀ b', b' < w.heap.size → ¬ forb (LP L0 β pe) μ H b' → ¬ forb (LP L0 β' (upd pe i)) μ H b' := by
      rintro b' hb' hn (h | h)
      · rcases hLP b' h with h | h
        · exact hn (.inl h)
        omega
      exact hn (.inr h)
    have st : Step w w' (forb (LP L0 β pe) μ H) (forb (LP L0 β' (upd pe i)) μ H) μ μ H H :=
      ⟨eK.size, fun b' hb' hn => eK.chg b' hb' (fun hl => hn (.inr hl)), hforb, fun _ _ h => h, eK.heap⟩
    have hs2 : SR C (LP L0 β' (upd pe i)) w' μ H := by
      refine ⟨hs.len, fun i' o' b' q1 q2 => ?_, hs.inj, fun i' o' b' q1 q2 hL => ?_, fun b' hb' => ?_, fun g cs2 hg => ?_⟩
      · exact ((hs.obj i' o' b' q1 q2).same (Below.heap_alloc w _ b' (hs.block_lt q1 q2))).step st
      · rcases hLP b' hL with h | h
        · exact hs.own i' o' b' q1 q2 h
        have := hs.block_lt q1 q2; omega
      · have hsz : w'.heap.size = w.heap.size + 1 := by simp [w']
        rcases hLP b' hb' with h | h
        · have := hs.lim b' h; omega
        omega
      obtain ⟨g1, g2, g3⟩ := hs.glob g cs2 hg
      exact ⟨Nat.lt_of_lt_of_le g1 eK.size, hforb g g1 g2, VRL.step st.pure g1 g2 g3⟩
    have hnew : w'.heap[w.heap.size]? = some (.cells te.zero.cells T (0, 0)) := heap_alloc_new w _
    obtain ⟨c1, c2⟩ := cellsD_ok (w := w) (L := fun _ => True) (μ := []) (H := []) hd hok (constD_ok hz)
    obtain ⟨e, a', w'', h3, h4⟩ := hk.out L0 w0 μ0 H0 w' μ (a.put (some t) (.pointer (some ⟨w.heap.size, 0, none⟩))) β' (fun i1 j1 q1 q2 q3 => by
        rcases hpi i1 q1 with rfl | ⟨n1, p1⟩ <;> rcases hpi j1 q2 with rfl | ⟨n2, p2⟩
        · rfl
        · rw [hβi, hβn j1 n2] at q3; have := hlt j1 p2; omega
        · rw [hβi, hβn i1 n1] at q3; have := hlt i1 p1; omega
        rw [hβn i1 n1, hβn j1 n2] at q3; exact hβ i1 j1 p1 p2 q3)
      (fun j hj => by
        rcases hpi j hj with rfl | ⟨n1, p1⟩
        · rw [hβi]
          refine ⟨fun hL => ?_, he.size, fun i' o' q1 q2 => ?_⟩
          · have := hs.lim _ (.inl hL : LP L0 β pe _); omega
          have := hs.block_lt q1 q2; omega
        rw [hβn j n1]; exact hf j p1)
      (fun j t2 T2 cs2 hj hal => by
        rcases hpi j hj with rfl | ⟨n1, p1⟩
        · rw [hali] at hal
          injection hal with hal
          injection hal with e1 e2
          injection e2 with e2 e3
          subst e1; subst e2; subst e3
          rw [hβi]
          refine ⟨?_, te.zero.cells, hnew, ?_, fun i2 d2 hd2 => ?_⟩
          · have hl : t < a.tmps.toList.length := by rw [VRs_length hv]; exact htl
            simp only [Act.put, Array.toList_setIfInBounds]
            rw [List.getElem?_set]
            simp at hl
            simp [hl]
          · have := VRs_length c1; simp at this; omega
          obtain ⟨v, m1, m2⟩ := VRs_get c1 hd2
          obtain ⟨c3, _⟩ := cellsD_ok (w := w') (L := forb (LP L0 β' (upd pe j)) μ H) (μ := []) (H := []) hd hok (constD_ok hz)
          obtain ⟨v2, n1, n2⟩ := VRs_get c3 hd2
          rw [m1] at n1
          injection n1 with n1
          subst n1
          exact ⟨v, by simpa using m1, c2 v (List.mem_of_getElem? m1), VR.lift n2⟩
        obtain ⟨p2, cur, p3, p4, p5⟩ := hpd j t2 T2 cs2 p1 hal
        rw [hβn j n1]
        refine ⟨put_other (fun h => hdst j t2 T2 cs2 p1 hal (by injection h)) p2, cur, ?_, p4, fun i2 d2 hd2 => by
          obtain ⟨v2, m1, m2, m3⟩ := p5 i2 d2 hd2
          exact ⟨v2, m1, m2, VR.step st m3⟩⟩
        rw [show w'.heap[β j]? = w.heap[β j]? from Below.heap_alloc w _ _ (hlt j p1)]; exact p3)
      hs2 (VRs_put (VRs.step st hv) (by simp only [VR])) (by rw [put_defers]; exact DfR.step st hdf) (he.trans eK) b cs hrd
    exact ⟨e, a', w'', h3, .of_steps hst h4⟩
  exact h.elim
theorem AS.stp {j : Nat} {t : Tmp} {T : TypeId} {te : TE} {ds ds' : List D} {d : D} {y : Operand} {ty : TypeId} {pos : String} {aft : Array Edge} (ho : ops[i]? = some ⟨none, .store T (.tmp t) y, ty, pos, aft, none⟩) (ht : C.ty T = some te) (hpe : pe j = true) (hal : al j = some (t, T, ds)) (hy : evO C env y = some d) (hc : cellsD d = some ds') (hn : ds'.length = te.size) (hle : te.size ≤ ds.length) (hok : ds'.all (okCell []) = true) (hpu : D.pure.pures ds' = true)
    (hk : AS C Q ops k env H df (fun i => bif Nat.beq i j then some (t, T, ds') else al i) pe rest) : AS C Q ops k env H df al pe (i :: rest) := by
  refine ⟨fun L0 w0 μ0 H0 w μ a β hβ hf hpd hs hv hdf he b cs hrd => ?_⟩
  obtain ⟨p1, cur, p2, p3, p4⟩ := hpd j t T ds hpe hal
  have ti := (ty_tic ht).1
  have ey := evO_ok hs hv hy
  have okH : ∀ d' ∈ ds', okCell H d' = true := fun d' hd' => by
    have h1 := List.all_eq_true.1 hok d' hd'
    unfold okCell at h1 ⊢
    cases d' <;> first | exact h1 | (simp at h1)
  obtain ⟨v1, v2⟩ := cellsD_ok hc (List.all_eq_true.2 okH) ey
  have vl := VRs_length v1
  have hst := run_storeCells_at C.P (β j) 0 T (a.eval y).cells.toList 0 cur w p2 (by rw [vl]; omega) v2
  let cur' : Array Value := (cur.toList.take 0 ++ (a.eval y).cells.toList ++ cur.toList.drop (0 + (a.eval y).cells.toList.length)).toArray
  let w2 := w.setRow (β j) cur'
  have hpt : a.eval (.tmp t) = .pointer (some ⟨β j, 0, none⟩) := by
    simp only [Act.eval]
    exact getD_of_list p1
  have hrun : (execOp a.eval ⟨none, .store T (.tmp t) y, ty, pos, aft, none⟩).run C.P w = .ok .skip w2 := by
    simp only [execOp, hpt, Sem.run_bind, Instr.storeAt, storeVar, Instr.sureAddr, Sem.run_pure, Result.andThen_ok, ti.run_size]
    have : ¬ (a.eval y).cells.size ≠ te.size := by
      rw [Array.length_toList] at vl
      omega
    simp only [this, if_false, Sem.run_bind, Sem.run_pure, Result.andThen_ok]
    simp only [Nat.add_zero] at hst
    rw [hst]
    simp [w2, cur']
  have hwp : Oper.wp C.P ⟨none, .store T (.tmp t) y, ty, pos, aft, none⟩ a w (fun a' w1 => a' = a ∧ w1 = w2) (fun _ _ _ => False) := by
    unfold Oper.wp; rw [hrun]; exact ⟨rfl, rfl⟩
  rcases op_step (rest := rest) ho (by simp [Region.wanted]) hwp (by rintro ⟨_, _, h⟩; exact h) b (.inr fun d' w' ⟨h, _⟩ => no_defer (dst := none) (v := undef) h) k cs with ⟨a', w', ⟨e1, e2⟩, hst1⟩ | ⟨_, _, _, h, _⟩
  · subst e1; subst e2
    have hoth : ∀ b', b' ≠ β j → w2.heap[b']? = w.heap[b']? := fun b' hb' => setRow_other w (β j) b' cur' hb'
    have hsz : w2.heap.size = w.heap.size := by simp [w2]
    have hLj : LP L0 β pe (β j) := .inr ⟨j, hpe, rfl⟩
    have hHS : HStep w w2 μ H H := fun i x hx => ⟨x, hx, fun o' e => ⟨o', e, rfl, rfl, rfl, fun b' cur2 hb2 hw => ⟨cur2, by
      subst e
      rw [hoth b' (fun e => (hf j hpe).2.2 i o' hx (by rw [hb2, e]))]; exact hw, rfl⟩⟩⟩
    have st : Step w w2 (forb (LP L0 β pe) μ H) (forb (LP L0 β pe) μ H) μ μ H H :=
      ⟨by omega, fun b' _ hn => hoth b' (fun e => hn (.inl (e ▸ hLj))), fun _ _ h => h, fun _ _ h => h, hHS⟩
    have hs2 : SR C (LP L0 β pe) w2 μ H := by
      refine ⟨hs.len, fun i' o' b' q1 q2 => ((hs.obj i' o' b' q1 q2).same (hoth b' (fun e => (hf j hpe).2.2 i' o' q1 (by rw [q2, e])))).step st, hs.inj, hs.own, fun b' hb' => by rw [hsz]; exact hs.lim b' hb', fun g cs2 hg => ?_⟩
      obtain ⟨g1, g2, g3⟩ := hs.glob g cs2 hg
      exact ⟨by rw [hsz]; exact g1, g2, VRL.step st.pure g1 g2 g3⟩
    have he2 : Evo w0 w2 μ0 μ H0 H := by
      refine ⟨he.os, he.tape, he.output, by rw [hsz]; exact he.size, fun b' hb' hl => ?_, he.live, he.map, HStep.trans he.map he.heap hHS⟩
      rw [hoth b' (fun e => by have := (hf j hpe).2.1; omega)]
      exact he.chg b' hb' hl
    have hrow : w2.heap[β j]? = some (.cells cur' T (0, 0)) := setRow_heap w (β j) cur cur' T (0, 0) p2
    obtain ⟨e, a', w', h3, h4⟩ := hk.out L0 w0 μ0 H0 w2 μ a' β hβ hf (fun j2 t2 T2 cs2 hj2 hal2 => by
        by_cases e : j2 = j
        · subst e
          simp only [Nat.beq_refl, cond_true] at hal2
          injection hal2 with hal2
          injection hal2 with e1 e2
          injection e2 with e2 e3
          subst e1; subst e2; subst e3
          refine ⟨p1, cur', hrow, ?_, fun i2 d2 hd2 => ?_⟩
          · simp only [cur', List.take_zero, List.nil_append, List.size_toArray, List.length_append, vl]; omega
          obtain ⟨v, k1, k2⟩ := VRs_get v1 hd2
          refine ⟨v, ?_, v2 v (List.mem_of_getElem? k1), VR.step st k2⟩
          simp only [cur', List.take_zero, List.nil_append, List.getElem?_toArray]
          rw [List.getElem?_append_left (List.getElem?_eq_some_iff.1 k1).1]; exact k1
        have hb : Nat.beq j2 j = false := by
          cases hb : Nat.beq j2 j with
          | false => rfl
          | true => exact (e (Nat.eq_of_beq_eq_true hb)).elim
        simp only [hb, cond_false] at hal2
        obtain ⟨q1, cur2, q2, q3, q4⟩ := hpd j2 t2 T2 cs2 hj2 hal2
        refine ⟨q1, cur2, ?_, q3, fun i2 d2 hd2 => ?_⟩
        · rw [hoth (β j2) (fun h => e (hβ j2 j hj2 hpe h))]; exact q2
        obtain ⟨v, m1, m2, m3⟩ := q4 i2 d2 hd2
        exact ⟨v, m1, m2, VR.step st m3⟩) hs2 (VRs.step st hv) (DfR.step st hdf) he2 b cs hrd
    exact ⟨e, a', w', h3, .of_steps hst1 h4⟩
  exact h.elim
theorem AS.adopt {j : Nat} {t : Tmp} {T : TypeId} {cs : List D} {order : List Nat} (hj : pe j = true) (hal : al j = some (t, T, cs)) (hk : AS C Q ops k (env.set t (.ptr H.length 0)) (H ++ [some ⟨cs, T, 1, true, none⟩]) df al (fun i => bif Nat.beq i j then false else pe i) order) :
    AS C Q ops k env H df al pe order := by
  refine ⟨fun L0 w0 μ0 H0 w μ a β hβ hf hpd hs hv hdf he b cs2 hrd => ?_⟩
  obtain ⟨p1, cur, p2, p3, p4⟩ := hpd j t T cs hj hal
  let pe' : Nat → Bool := fun i => bif Nat.beq i j then false else pe i
  have hpe : ∀ i, pe' i = true → i ≠ j ∧ pe i = true := fun i hi => by
    by_cases e : i = j
    · subst e; simp only [pe', Nat.beq_refl, cond_true] at hi; cases hi
    have : Nat.beq i j = false := by
      cases hb : Nat.beq i j with
      | false => rfl
      | true => exact (e (Nat.eq_of_beq_eq_true hb)).elim
    simp only [pe', this, cond_false] at hi
    exact ⟨e, hi⟩
  have hpe2 : ∀ i, pe i = true → i = j ∨ pe' i = true := fun i hi => by
    by_cases e : i = j
    · exact .inl e
    have : Nat.beq i j = false := by
      cases hb : Nat.beq i j with
      | false => rfl
      | true => exact (e (Nat.eq_of_beq_eq_true hb)).elim
    exact .inr (by simp only [pe', this, cond_false]; exact hi)
  let μ' := μ ++ [β j]
  let H' : Heap := H ++ [some ⟨cs, T, 1, true, none⟩]
  have hlen := hs.len
  have hcase : ∀ (i : Nat) (o' : AObj) (b' : Nat), H'[i]? = some (some o') → μ'[i]? = some b' → (H[i]? = some (some o') ∧ μ[i]? = some b') ∨ (i = H.length ∧ o' = ⟨cs, T, 1, true, none⟩ ∧ b' = β j) := by
    intro i o' b' h1 h2
    by_cases hi : i < H.length
    · rw [List.getElem?_append_left hi] at h1
      rw [List.getElem?_append_left (by rw [hlen]; exact hi)] at h2
      exact .inl ⟨h1, h2⟩
    have hi' : i = H.length := by
      have := (List.getElem?_eq_some_iff.1 h1).1
      simp [H'] at this
      omega
    subst hi'
    have h2' : (μ ++ [β j])[μ.length]? = some b' := by rw [hlen]; exact h2
    simp [H'] at h1
    simp at h2'
    exact .inr ⟨rfl, h1.symm, h2'.symm⟩
  have hm : ∀ i b' : Nat, μ[i]? = some b' → μ'[i]? = some b' := fun i b' h => by
    rw [List.getElem?_append_left (List.getElem?_eq_some_iff.1 h).1]; exact h
  have hh : ∀ (i : Nat) (x : Option AObj), H[i]? = some x → H'[i]? = some x := fun i x h => by
    rw [List.getElem?_append_left (List.getElem?_eq_some_iff.1 h).1]; exact h
  have hfb : ∀ b', forb (LP L0 β pe') μ' H' b' → forb (LP L0 β pe) μ H b' := by
    rintro b' (h | ⟨i, o', q1, q2, q3⟩)
    · rcases h with h | ⟨i, hi, rfl⟩
      · exact .inl (.inl h)
      exact .inl (.inr ⟨i, (hpe i hi).2, rfl⟩)
    rcases hcase i o' b' q1 q3 with ⟨r1, r2⟩ | ⟨_, _, r3⟩
    · exact .inr ⟨i, o', r1, q2, r2⟩
    rw [r3]; exact .inl (.inr ⟨j, hj, rfl⟩)
  have hHS : HStep w w μ H H' := fun i x hx => ⟨x, hh i x hx, fun o' e => ⟨o', e, rfl, rfl, rfl, fun b' cur' _ hw => ⟨cur', hw, rfl⟩⟩⟩
  have st : Step w w (forb (LP L0 β pe) μ H) (forb (LP L0 β pe') μ' H') μ μ' H H' :=
    ⟨Nat.le_refl _, fun _ _ _ => rfl, fun b' _ hn hf' => hn (hfb b' hf'), hm, hHS⟩
  have hblt : β j < w.heap.size := hs.lim _ (.inr ⟨j, hj, rfl⟩)
  have hs' : SR C (LP L0 β pe') w μ' H' := by
    refine ⟨by simp [μ', H', hlen], fun i o' b' q1 q2 => ?_, fun i1 i2 o1 o2 b' q1 q2 q3 q4 ql => ?_, fun i o' b' q1 q2 hL => ?_, fun b' hb' => ?_, fun g cs3 hg => ?_⟩
    · rcases hcase i o' b' q1 q2 with ⟨r1, r2⟩ | ⟨_, rfl, rfl⟩
      · exact (hs.obj i o' b' r1 r2).step st
      exact .of_row rfl ⟨cur, p2, p3, fun i2 d2 hd2 => by
        obtain ⟨v, m1, m2, m3⟩ := p4 i2 d2 hd2
        exact ⟨v, m1, m2, VR.step st m3⟩⟩
    · rcases hcase i1 o1 b' q1 q3 with ⟨r1, r2⟩ | ⟨e1, _, e3⟩ <;> rcases hcase i2 o2 b' q2 q4 with ⟨s1, s2⟩ | ⟨f1, _, f3⟩
      · exact hs.inj i1 i2 o1 o2 b' r1 s1 r2 s2 ql
      · exact ((hf j hj).2.2 i1 o1 r1 (by rw [r2, f3])).elim
      · exact ((hf j hj).2.2 i2 o2 s1 (by rw [s2, e3])).elim
      omega
    · rcases hcase i o' b' q1 q2 with ⟨r1, r2⟩ | ⟨_, _, rfl⟩
      · rcases hL with h | ⟨i3, h3, rfl⟩
        · exact hs.own i o' b' r1 r2 (.inl h)
        exact hs.own i o' _ r1 r2 (.inr ⟨i3, (hpe i3 h3).2, rfl⟩)
      rcases hL with h | ⟨i3, h3, h4⟩
      · exact (hf j hj).1 h
      exact (hpe i3 h3).1 (hβ i3 j (hpe i3 h3).2 hj h4)
    · rcases hb' with h | ⟨i3, h3, rfl⟩
      · exact hs.lim b' (.inl h)
      exact hs.lim _ (.inr ⟨i3, (hpe i3 h3).2, rfl⟩)
    obtain ⟨g1, g2, g3⟩ := hs.glob g cs3 hg
    exact ⟨g1, fun hf' => g2 (hfb _ hf'), VRL.step st.pure g1 g2 g3⟩
  have he' : Evo w0 w μ0 μ' H0 H' := by
    refine ⟨he.os, he.tape, he.output, he.size, he.chg, fun b' hb' hl => ?_, fun id b' h => hm id b' (he.map id b' h), HStep.trans he.map he.heap hHS⟩
    obtain ⟨i, o', q1, q2, q3⟩ := hl
    rcases hcase i o' b' q1 q3 with ⟨r1, r2⟩ | ⟨_, _, r3⟩
    · exact he.live b' hb' ⟨i, o', r1, q2, r2⟩
    have := (hf j hj).2.1; omega
  have hvt : VRs w (forb (LP L0 β pe') μ' H') μ' H' (env.set t (.ptr H.length 0)) a.tmps.toList := by
    have h1 := VRs_set (t := t) (d := .ptr H.length 0) (v := .pointer (some ⟨β j, 0, none⟩)) (by simp only [VR]; exact ⟨β j, by rw [← hlen]; simp [μ'], rfl⟩) (VRs.step st hv)
    have h2 : a.tmps.toList.set t (.pointer (some ⟨β j, 0, none⟩)) = a.tmps.toList := by
      apply List.ext_getElem?
      intro i
      rw [List.getElem?_set]
      by_cases e : t = i
      · subst e; rw [p1]; simp; exact (List.getElem?_eq_some_iff.1 p1).1
      simp [e]
    rw [h2] at h1
    exact h1
  exact hk.out L0 w0 μ0 H0 w μ' a β (fun i1 i2 q1 q2 q3 => hβ i1 i2 (hpe i1 q1).2 (hpe i2 q2).2 q3)
    (fun i hi => ⟨(hf i (hpe i hi).2).1, (hf i (hpe i hi).2).2.1, fun i' o' q1 q2 => by
      rcases hcase i' o' _ q1 q2 with ⟨r1, r2⟩ | ⟨_, _, r3⟩
      · exact (hf i (hpe i hi).2).2.2 i' o' r1 r2
      exact (hpe i hi).1 (hβ i j (hpe i hi).2 hj r3)⟩)
    (fun i t2 T2 cs3 hi hal2 => by
      obtain ⟨q1, cur2, q2, q3, q4⟩ := hpd i t2 T2 cs3 (hpe i hi).2 hal2
      exact ⟨q1, cur2, q2, q3, fun i2 d2 hd2 => by
        obtain ⟨v2, m1, m2, m3⟩ := q4 i2 d2 hd2
        exact ⟨v2, m1, m2, VR.step st m3⟩⟩) hs' hvt (DfR.step st hdf) he' b cs2 (hrd.step hm)
theorem AS.run {order : List Nat} (hpe : ∀ j, pe j = false) (hk : ARun C Q (.inRegion ops order :: k) env H df) : AS C Q ops k env H df al pe order := by
  refine ⟨fun L0 w0 μ0 H0 w μ a β hβ hf hpd hs hv hdf he b cs hrd => ?_⟩
  have hsub : ∀ b, L0 b → LP L0 β pe b := fun b hb => .inl hb
  have sst : Step w w (forb (LP L0 β pe) μ H) (forb L0 μ H) μ μ H H := Step.sub (forb_sub hsub)
  exact hk.out L0 w0 μ0 H0 w μ a (hs.shrink hsub) (VRs.step sst hv) (DfR.step sst hdf) he b cs hrd
theorem ARun.ofAS {order : List Nat} (hpe : ∀ j, pe j = false) (hk : AS C Q ops k env H df al pe order) : ARun C Q (.inRegion ops order :: k) env H df := by
  refine ⟨fun L0 w0 μ0 H0 w μ a hs hv hdf he b cs hrd => ?_⟩
  have hno : ∀ j, ¬ pe j = true := fun j h => by rw [hpe j] at h; cases h
  have hsub : ∀ b, LP L0 (fun _ => 0) pe b → L0 b := fun b hb => hb.elim id (fun ⟨j, h, _⟩ => (hno j h).elim)
  have sst : Step w w (forb L0 μ H) (forb (LP L0 (fun _ => 0) pe) μ H) μ μ H H := Step.sub (forb_sub hsub)
  exact hk.out L0 w0 μ0 H0 w μ a (fun _ => 0) (fun i j h => (hno i h).elim) (fun j h => (hno j h).elim) (fun j _ _ _ h => (hno j h).elim) (hs.shrink hsub) (VRs.step sst hv) (DfR.step sst hdf) he b cs hrd
end
end Go.V
/- CONTRACTS WHOSE RESULT IS A ROW that may still be written; calls that write, or that make rows, with arguments that are handed on. -/
namespace Go.V
open Go.RowKit Go.Proofs
section
variable {C : Ctx} {Q : Post} {ops : Array Oper} {rest : List Oper} {k : List Item} {env env' : List D} {H H' : Heap} {df : List ADef}
variable {dst : Option Tmp} {op : Op} {ty : TypeId} {pos : String} {aft : Array Edge} {gd : Option (Nat × Bool)} {x y : Operand} {T e : TypeId} {tee : TE}
end
end Go.V
