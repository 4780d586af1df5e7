/- A part of the proof: abstract values, rules for the steps of the program's form, and contracts of its functions, each proved; no condition. -/
import Derived.Test.YthankfodgdfgaaaDoorA08
set_option linter.unusedVariables false
set_option linter.unusedSimpArgs false
set_option linter.unnecessarySimpa false
set_option maxHeartbeats 8000000
set_option maxRecDepth 100000
set_option synthInstance.maxSize 100000
set_option synthInstance.maxHeartbeats 2000000
namespace Go.V
open Go.RowKit Go.Proofs
def rowsN : List (List Nat) := [[100, 105, 117, 111, 120, 88, 98], [101, 69, 102, 70, 103, 71, 97, 65], [99, 115, 91], [112], [110]]
def rowsA : List D := rowsN.map fun r => D.str (bytesOf r)
theorem rowsA_get : ∀ i, i < 5 → (rowsA.drop (i * 1))[0]? = some (.str (bytesOf (rowsN.getD i [])))
  | 0, _ | 1, _ | 2, _ | 3, _ | 4, _ => rfl
  | i + 5, h => by omega
theorem rowsN_lt : ∀ i, i < 5 → (∀ c ∈ rowsN.getD i [], c < 256) ∧ (rowsN.getD i []).length ≤ 8
  | 0, _ | 1, _ | 2, _ | 3, _ | 4, _ => by decide
  | i + 5, h => by omega
def classF : List (List Nat) → Nat → Nat → Nat
  | [], _, _ => 0
  | r :: rs, c, n => if c ∈ r then n + 1 else classF rs c (n + 1)
def sclass (c : Nat) : Nat := classF rowsN c 0
theorem rowsN_drop : ∀ i, i < 5 → rowsN.drop i = rowsN.getD i [] :: rowsN.drop (i + 1)
  | 0, _ | 1, _ | 2, _ | 3, _ | 4, _ => rfl
  | i + 5, h => by omega
theorem ZhJ (c : Nat) (hc : c < 256) : PC C Zhe [.int .u8 (c : Int)] (fun o => o = .ret (.int .i64 ((sclass c : Nat) : Int))) := by
  obtain ⟨R, hR⟩ : ∃ R, R = sclass c := ⟨_, rfl⟩
  rw [← hR]
  refine PC.rn Zel ZgA ZgB (rs := [.tmp 2]) (by rw [ZgC]) ?_
  refine ARun.seq (ARun.region ?_); refine zza ?_; refine AOps.nil (ARun.seq (ARun.region ?_))
  refine y_op rfl (OpQ.cast (Zba rfl rfl rfl rfl rfl rfl rfl rfl rfl rfl rfl (by decide) (by decide) rfl) (show _ = D.sl 5 rowsA from rfl)) ?_
  refine zza ?_; refine AOps.nil (ARun.seq (ARun.seq (ARun.region ?_))); refine zza ?_; refine AOps.nil (ARun.block ?_)
  refine ARun.loopI (S := Nat) (fun i : Nat => [(2, .any), (5, .any), (7, .any), (8, .any), (9, .any), (10, .any), (11, .any), (12, .any), (13, .any), (14, .any), (15, .any), (16, .any), (17, .any), (18, .any), (19, .any), (20, .any), (21, .any), (22, .any), (23, .any), (24, .any), (25, .any), (26, .any), (27, .any), (28, .any), (29, .any), (30, .any), (31, .any), (4, .int .i64 (i : Int))]) (fun i : Nat => []) (fun i : Nat => i ≤ 5 ∧ R = classF (rowsN.drop i) c i) (fun i : Nat => 5 - i) (0) ?_ ?_ ?_ ?_
  · exact ⟨by decide, hR⟩
  · (repeat' first | exact envLe_nil | apply envLe_any | apply envLe_same)
  · rfl
  rintro i hinv ih
  obtain ⟨i1, i2⟩ := hinv
  refine ARun.seq (ARun.seq (ARun.region ?_)); refine zzm ?_; refine zzm ?_; refine zzN ?_; refine zzi ?_; refine AOps.nil ?_
  refine ARun.ite rfl (fun g => ?_) (fun g => ?_)
  · skip
    have g : i < 5 := by omega
    rw [rowsN_drop i g] at i2
    have hrow := rowsA_get i g
    obtain ⟨hr1, hr2⟩ := rowsN_lt i g
    generalize rowsN.getD i [] = row at *
    refine ARun.skip (ARun.seq (ARun.block (ARun.seq (ARun.region ?_)))); refine zza ?_; refine AOps.nil (ARun.block ?_)
    refine ARun.loopI (S := Nat) (fun k : Nat => [(2, .any), (13, .any), (14, .any), (15, .any), (16, .any), (17, .any), (18, .any), (19, .any), (20, .any), (21, .any), (22, .any), (23, .any), (24, .any), (25, .any), (26, .any), (27, .any), (28, .any), (29, .any), (30, .any), (31, .any), (5, .int .i64 (k : Int))]) (fun k : Nat => []) (fun k : Nat => k ≤ row.length ∧ ∀ j, j < k → row.getD j 0 ≠ c) (fun k : Nat => row.length - k) (0) ?_ ?_ ?_ ?_
    · exact ⟨Nat.zero_le _, fun j h => absurd h (Nat.not_lt_zero j)⟩
    · (repeat' first | exact envLe_nil | apply envLe_any | apply envLe_same)
    · rfl
    rintro k hinv ih2
    obtain ⟨k1, k2⟩ := hinv
    refine ARun.seq (ARun.seq (ARun.region ?_)); refine zzm ?_; refine zzm ?_; refine zzm ?_
    refine y_op rfl (Zaf rfl rfl rfl rfl (by omega) (by omega) (by decide) rfl) ?_
    refine y_op rfl (q_load rfl rfl rfl hrow) ?_
    refine y_op rfl (Zag rfl rfl) ?_
    refine y_op rfl (OpQ.cast (d' := .bool (decide (k < row.length))) (q_int rfl rfl rfl) (congrArg D.bool (decide_eq_decide.2 (by rw [bytesOf_size]; omega)))) ?_
    refine AOps.nil ?_
    refine ARun.ite rfl (fun f => ?_) (fun f => ?_)
    · skip
      refine ARun.skip (ARun.seq (ARun.block (ARun.seq (ARun.region ?_)))); refine zzm ?_; refine zzm ?_
      refine y_op rfl (Zaf rfl rfl rfl rfl (by omega) (by omega) (by decide) rfl) ?_
      refine y_op rfl (q_load rfl rfl rfl hrow) ?_
      refine zzm ?_
      refine y_op rfl (Zai rfl rfl rfl (by omega) (by rw [bytesOf_size]; omega) (sby_get _)) ?_
      refine zzm ?_
      refine y_op rfl (OpQ.cast (d' := .bool (decide (row.getD k 0 = c))) (q_int rfl rfl rfl) (congrArg D.bool (decide_eq_decide.2 (by rw [sby_bytesOf hr1]; omega)))) ?_
      refine AOps.nil ?_
      refine ARun.ite rfl (fun y => ?_) (fun y => ?_)
      · skip
        have hm : c ∈ row := by rw [← y, List.getD_eq_getElem?_getD, List.getElem?_eq_getElem f]; exact List.getElem_mem _
        rw [classF, if_pos hm] at i2
        subst i2
        refine ARun.seq (ARun.region ?_); refine zzm ?_
        refine y_op rfl (OpQ.cast (d' := .int .i64 ((i + 1 : Nat) : Int)) (q_int rfl rfl rfl) (congrArg (D.int .i64) (by show IntKind.i64.wrap _ = _; rw [IntWalk.i64_in _ (by omega)]; omega))) ?_
        refine zza ?_; refine AOps.nil ?_
        refine ARun.ret ?_
        refine ⟨_, _, _, .tmp rfl .nil, .cons (.same _) .nil, rfl, ?_⟩
        rfl
      refine ARun.skip (ARun.inBlock (ARun.region ?_)); refine zzm ?_
      refine y_op rfl (q_add rfl rfl (nadd1_i64 (by omega))) ?_
      refine zza ?_; refine AOps.nil ?_
      refine ARun.again (ih2 (k + 1) ?_ ?_) ?_ ?_
      · exact ⟨f, fun j hj => (Nat.lt_or_eq_of_le (Nat.le_of_lt_succ hj)).elim (k2 j) (fun e => by rw [e]; exact y)⟩
      · omega
      · (repeat' first | exact envLe_nil | apply envLe_any | apply envLe_same)
      rfl
    obtain rfl : k = row.length := by omega
    have hm : ¬ c ∈ row := fun h => by
      obtain ⟨j, hj, e⟩ := List.getElem_of_mem h
      exact k2 j hj (by rw [List.getD_eq_getElem?_getD, List.getElem?_eq_getElem hj]; exact e)
    rw [classF, if_neg hm] at i2
    refine ARun.exit rfl ?_
    refine ARun.inBlock (ARun.region ?_); refine zzm ?_
    refine y_op rfl (q_add rfl rfl (nadd1_i64 (by omega))) ?_
    refine zza ?_; refine AOps.nil ?_
    refine ARun.again (ih (i + 1) ?_ ?_) ?_ ?_
    · exact ⟨g, i2⟩
    · omega
    · (repeat' first | exact envLe_nil | apply envLe_any | apply envLe_same)
    rfl
  obtain rfl : i = 5 := by omega
  have i2 : R = 0 := i2
  subst i2
  refine ARun.exit rfl ?_
  refine ARun.seq (ARun.region ?_); refine zza ?_; refine AOps.nil ?_
  refine ARun.ret ?_
  refine ⟨_, _, _, .tmp rfl .nil, .cons (.same _) .nil, rfl, ?_⟩
  rfl
end Go.V
set_option maxHeartbeats 8000000
set_option maxRecDepth 100000
set_option synthInstance.maxSize 100000
set_option synthInstance.maxHeartbeats 2000000
namespace Go.V
open Go.RowKit Go.Proofs
end Go.V
set_option maxHeartbeats 8000000
set_option maxRecDepth 100000
set_option synthInstance.maxSize 100000
set_option synthInstance.maxHeartbeats 2000000
namespace Go.V
open Go.RowKit Go.Proofs
def sdp (n c : Nat) : Bool := (decide (48 ≤ c) && decide (c ≤ 57)) && (decide (0 < n) || decide (48 < c))
def dnum (n : Nat) : List Nat := if 9 < n then dnum (n / 10) ++ [48 + n % 10] else [48 + n % 10]
termination_by n
decreasing_by omega
theorem dnum_big {n : Nat} (h : 9 < n) : dnum n = dnum (n / 10) ++ [48 + n % 10] := by rw [dnum, if_pos h]
theorem dnum_one {n : Nat} (h : ¬ 9 < n) : dnum n = [48 + n % 10] := by rw [dnum, if_neg h]
theorem Zfd (n0 : Nat) (h0 : n0 ≤ 1000000) : PC C ZcS [.int .i64 (n0 : Int)] (fun o => o = .ret (.str (bytesOf (dnum n0)))) := by
  obtain ⟨R, hR⟩ : ∃ R, R = dnum n0 := ⟨_, rfl⟩
  rw [← hR]
  refine PC.rn ZdH Zga Zgb (rs := [.tmp 2]) (by rw [Zgc]) ?_
  refine ARun.seq (ARun.region ?_); refine zza ?_; refine AOps.nil (ARun.seq (ARun.region ?_)); refine zzm ?_
  refine y_op rfl (q_rem rfl rfl (by decide) (show _ = ((n0 % 10 : Nat) : Int) by rw [Int.tmod_eq_emod_of_nonneg (by omega)]; omega)) ?_
  refine y_op rfl (OpQ.cast (d' := .int .i64 ((48 + n0 % 10 : Nat) : Int)) (q_int rfl rfl rfl) (congrArg (D.int .i64) (by show IntKind.i64.wrap _ = _; rw [IntWalk.i64_in _ (by omega)]; omega))) ?_
  refine y_op rfl (q_conv rfl rfl rfl (show _ = ((48 + n0 % 10 : Nat) : Int) by rw [IntKind.wrap_u8]; omega)) ?_
  refine y_op rfl (Zba rfl rfl rfl rfl rfl rfl rfl rfl rfl rfl rfl (by decide) (by decide) rfl) ?_
  refine y_op rfl (ZcU (n := 1) (l := [48 + n0 % 10]) rfl (by kernel_rfl) rfl rfl rfl rfl) ?_
  refine zza ?_; refine AOps.nil (ARun.seq (ARun.block ?_))
  refine ARun.loopI (S := Nat × List Nat) (fun σ : Nat × List Nat => [(10, .any), (11, .any), (12, .any), (13, .any), (14, .any), (15, .any), (16, .any), (17, .any), (18, .any), (19, .any), (20, .any), (21, .any), (0, .int .i64 (σ.1 : Int)), (3, .str (bytesOf ((48 + σ.1 % 10) :: σ.2)))]) (fun σ : Nat × List Nat => []) (fun σ : Nat × List Nat => σ.1 ≤ 1000000 ∧ R = dnum σ.1 ++ σ.2 ∧ σ.1 + σ.2.length ≤ 1000000) (fun σ : Nat × List Nat => σ.1) ((n0, [])) ?_ ?_ ?_ ?_
  · exact ⟨h0, by rw [List.append_nil]; exact hR, h0⟩
  · (repeat' first | exact envLe_nil | apply envLe_any | apply envLe_same)
  · rfl
  rintro ⟨n, L⟩ hinv ih
  dsimp only at hinv ih ⊢
  obtain ⟨i1, i2, i3⟩ := hinv
  refine ARun.seq (ARun.seq (ARun.region ?_)); refine zzm ?_; refine zzi ?_; refine AOps.nil ?_
  refine ARun.ite rfl (fun g => ?_) (fun g => ?_)
  · skip
    have g : 9 < n := by omega
    rw [dnum_big g, List.append_assoc] at i2
    refine ARun.skip (ARun.block (ARun.seq (ARun.region ?_))); refine zzm ?_
    refine y_op rfl (q_quo rfl rfl (by decide) (show _ = ((n / 10 : Nat) : Int) by rw [Int.tdiv_eq_ediv_of_nonneg (by omega), IntWalk.i64_in _ (by omega)]; omega)) ?_
    refine zza ?_; refine AOps.nil (ARun.region ?_); refine zzm ?_
    refine y_op rfl (q_rem rfl rfl (by decide) (show _ = (((n / 10) % 10 : Nat) : Int) by rw [Int.tmod_eq_emod_of_nonneg (by omega)]; omega)) ?_
    refine y_op rfl (OpQ.cast (d' := .int .i64 ((48 + (n / 10) % 10 : Nat) : Int)) (q_int rfl rfl rfl) (congrArg (D.int .i64) (by show IntKind.i64.wrap _ = _; rw [IntWalk.i64_in _ (by omega)]; omega))) ?_
    refine y_op rfl (q_conv rfl rfl rfl (show _ = ((48 + (n / 10) % 10 : Nat) : Int) by rw [IntKind.wrap_u8]; omega)) ?_
    refine y_op rfl (Zba rfl rfl rfl rfl rfl rfl rfl rfl rfl rfl rfl (by decide) (by decide) rfl) ?_
    refine y_op rfl (ZcU (n := 1) (l := [48 + (n / 10) % 10]) rfl (by kernel_rfl) rfl rfl rfl rfl) ?_
    refine zzm ?_
    refine y_op rfl (OpQ.cast (d' := .str (bytesOf ((48 + n / 10 % 10) :: (48 + n % 10) :: L))) (Zal (s := bytesOf [48 + n / 10 % 10]) (t := bytesOf ((48 + n % 10) :: L)) rfl rfl (by rw [bytesOf_size, bytesOf_size]; simp only [List.length_cons, List.length_nil]; omega)) (congrArg D.str (bytesOf_append [48 + n / 10 % 10] ((48 + n % 10) :: L)).symm)) ?_
    refine zza ?_; refine AOps.nil (ARun.inBlock ?_)
    refine ARun.again (ih ((n / 10, (48 + n % 10) :: L)) ?_ ?_) ?_ ?_
    · exact ⟨by dsimp only; omega, i2, by simp only [List.length_cons]; omega⟩
    · (dsimp only; omega)
    · (repeat' first | exact envLe_nil | apply envLe_any | apply envLe_same)
    rfl
  rw [dnum_one (by omega)] at i2
  have i2 : R = (48 + n % 10) :: L := i2
  subst i2
  refine ARun.exit rfl ?_
  refine ARun.seq (ARun.region ?_); refine zzm ?_; refine zza ?_; refine AOps.nil ?_
  refine ARun.ret ?_
  refine ⟨_, _, _, .tmp rfl .nil, .cons (.same _) .nil, rfl, ?_⟩
  rfl
end Go.V
set_option maxHeartbeats 8000000
set_option maxRecDepth 100000
set_option synthInstance.maxSize 100000
set_option synthInstance.maxHeartbeats 2000000
namespace Go.V
open Go.RowKit Go.Proofs
structure Pc where
  lit : ByteArray
  arg : Int
  wid : Int
  len : Int
  conv : Nat
  set : Nat → Bool
abbrev Pc.cells (p : Pc) : List D := [.str p.lit, .int .i64 p.arg, .int .i64 p.wid, .int .i64 p.len, .int .u8 (p.conv : Int), .int .u64 ((sw p.set 0 : Nat) : Int), .int .u64 ((sw p.set 1 : Nat) : Int), .int .u64 ((sw p.set 2 : Nat) : Int), .int .u64 ((sw p.set 3 : Nat) : Int)]
def pcZ : Pc := ⟨ByteArray.empty, 0, 0, 0, 0, sempty⟩
abbrev pcs (l : List Pc) : List D := l.flatMap Pc.cells
abbrev slP (l : List Pc) : D := .sl l.length (pcs l)
theorem pcs_drop : ∀ (l : List Pc) (i : Nat), i < l.length → (pcs l).drop (i * 9) = (l.getD i pcZ).cells ++ pcs (l.drop (i + 1))
  | [], i, h => absurd h (Nat.not_lt_zero i)
  | p :: l, 0, _ => rfl
  | p :: l, i + 1, h => by
    have ih := pcs_drop l i (Nat.lt_of_succ_lt_succ h)
    show (p.cells ++ pcs l).drop _ = _
    rw [List.drop_append, List.drop_eq_nil_of_le (by show 9 ≤ _; omega), show (i + 1) * 9 - p.cells.length = i * 9 by show _ - 9 = _; omega, ih]; rfl
theorem pcs_ne {l : List Pc} {i : Nat} (h : i < l.length) : pcs l ≠ [] := by
  cases l with
  | nil => exact absurd h (Nat.not_lt_zero i)
  | cons p l => intro e; cases e
def sord : List Pc → Int → Bool
  | [], _ => true
  | p :: ps, n => if p.arg > 0 then (if p.arg = n + 1 then sord ps (n + 1) else false) else sord ps n
theorem drop_getD {α : Type} (l : List α) (i : Nat) (d : α) (h : i < l.length) : l.drop i = l.getD i d :: l.drop (i + 1) := by
  rw [List.getD_eq_getElem?_getD, List.getElem?_eq_getElem h, List.drop_eq_getElem_cons h]; rfl
theorem Zen (l : List Pc) (hl : l.length ≤ 1099511627776) : PC C Zf8 [slP l] (fun o => o = .ret (.bool (sord l 0))) := by
  obtain ⟨R, hR⟩ : ∃ R, R = sord l 0 := ⟨_, rfl⟩
  rw [← hR]
  refine PC.rn Zc9 Zfw Zfx (rs := [.tmp 2]) (by rw [Zfy]) ?_
  refine ARun.seq (ARun.region ?_); refine zza ?_; refine AOps.nil (ARun.seq (ARun.region ?_)); refine zza ?_; refine AOps.nil (ARun.seq (ARun.seq (ARun.region ?_))); refine zza ?_; refine AOps.nil (ARun.block ?_)
  refine ARun.loopI (S := Nat × Nat) (fun σ : Nat × Nat => [(2, .any), (5, .any), (6, .any), (7, .any), (8, .any), (9, .any), (10, .any), (11, .any), (12, .any), (13, .any), (14, .any), (15, .any), (16, .any), (17, .any), (18, .any), (19, .any), (20, .any), (21, .any), (22, .any), (23, .any), (24, .any), (25, .any), (4, .int .i64 (σ.1 : Int)), (3, .int .i64 (σ.2 : Int))]) (fun σ : Nat × Nat => []) (fun σ : Nat × Nat => σ.1 ≤ l.length ∧ σ.2 ≤ σ.1 ∧ R = sord (l.drop σ.1) (σ.2 : Int)) (fun σ : Nat × Nat => l.length - σ.1) ((0, 0)) ?_ ?_ ?_ ?_
  · exact ⟨Nat.zero_le _, Nat.le_refl _, hR⟩
  · (repeat' first | exact envLe_nil | apply envLe_any | apply envLe_same)
  · rfl
  rintro ⟨i, n⟩ hinv ih
  dsimp only at hinv ih ⊢
  obtain ⟨i1, i2, i3⟩ := hinv
  refine ARun.seq (ARun.seq (ARun.region ?_)); refine zzm ?_; refine zzm ?_; refine zzN ?_; refine zzi ?_; refine AOps.nil ?_
  refine ARun.ite rfl (fun g => ?_) (fun g => ?_)
  · skip
    have g : i < l.length := by omega
    rw [drop_getD l i pcZ g] at i3
    have hd := pcs_drop l i g
    have hne := pcs_ne g
    generalize l.getD i pcZ = p at *
    refine ARun.skip (ARun.seq (ARun.block (ARun.seq (ARun.region ?_)))); refine zzm ?_; refine zzm ?_
    refine y_op rfl (Zaf rfl rfl rfl rfl (by omega) (by omega) hne hd) ?_
    refine zzf ?_; refine zzl ?_; refine zzi ?_; refine AOps.nil ?_
    refine ARun.ite rfl (fun a => ?_) (fun a => ?_)
    · skip
      rw [sord, if_pos a] at i3
      refine ARun.seq (ARun.region ?_); refine zzm ?_
      refine y_op rfl (OpQ.cast (d' := .int .i64 ((n + 1 : Nat) : Int)) (q_int rfl rfl rfl) (congrArg (D.int .i64) (by show IntKind.i64.wrap _ = _; rw [IntWalk.i64_in _ (by omega)]; omega))) ?_
      refine zza ?_; refine AOps.nil (ARun.seq (ARun.region ?_)); refine zzm ?_; refine zzm ?_
      refine y_op rfl (Zaf rfl rfl rfl rfl (by omega) (by omega) hne hd) ?_
      refine zzf ?_; refine zzl ?_; refine zzm ?_; refine zzi ?_; refine AOps.nil ?_
      refine ARun.cond rfl (fun b => ?_) (fun b => ?_)
      · skip
        have b : ¬ p.arg = (n : Int) + 1 := by
          intro e
          rw [e] at b
          simp at b
        rw [if_neg b] at i3
        subst i3
        refine ARun.seq (ARun.region ?_); refine zza ?_; refine AOps.nil ?_
        refine ARun.ret ?_
        refine ⟨_, _, _, .tmp rfl .nil, .cons (.same _) .nil, rfl, ?_⟩
        rfl
      have b : p.arg = (n : Int) + 1 := by simpa using b
      rw [if_pos b] at i3
      refine ARun.skip (ARun.inBlock (ARun.region ?_)); refine zzm ?_
      refine y_op rfl (q_add rfl rfl (nadd1_i64 (by omega))) ?_
      refine zza ?_; refine AOps.nil ?_
      refine ARun.again (ih ((i + 1, n + 1)) ?_ ?_) ?_ ?_
      · exact ⟨g, Nat.succ_le_succ i2, i3⟩
      · (dsimp only; omega)
      · (repeat' first | exact envLe_nil | apply envLe_any | apply envLe_same)
      rfl
    rw [sord, if_neg a] at i3
    refine ARun.skip (ARun.inBlock (ARun.region ?_)); refine zzm ?_
    refine y_op rfl (q_add rfl rfl (nadd1_i64 (by omega))) ?_
    refine zza ?_; refine AOps.nil ?_
    refine ARun.again (ih ((i + 1, n)) ?_ ?_) ?_ ?_
    · exact ⟨g, Nat.le_succ_of_le i2, i3⟩
    · (dsimp only; omega)
    · (repeat' first | exact envLe_nil | apply envLe_any | apply envLe_same)
    rfl
  rw [List.drop_eq_nil_of_le (by omega)] at i3
  subst i3
  refine ARun.exit rfl ?_
  refine ARun.seq (ARun.region ?_); refine zza ?_; refine AOps.nil ?_
  refine ARun.ret ?_
  refine ⟨_, _, _, .tmp rfl .nil, .cons (.same _) .nil, rfl, ?_⟩
  rfl
def smost : List Pc → Int → Int
  | [], m => m
  | p :: ps, m => smost ps (max m p.arg)
def sused (l : List Pc) (n : Int) : Bool := l.any fun p => decide (p.arg = n)
def sall (l : List Pc) (m k : Nat) : Bool := if k ≤ m then sused l (k : Int) && sall l m (k + 1) else true
termination_by m + 1 - k
theorem sall_end {l : List Pc} {m k : Nat} (h : ¬ k ≤ m) : sall l m k = true := by rw [sall, if_neg h]
theorem sall_yes {l : List Pc} {m k : Nat} (h : k ≤ m) (g : sused l (k : Int) = true) : sall l m k = sall l m (k + 1) := by rw [sall, if_pos h, g, Bool.true_and]
theorem sall_no {l : List Pc} {m k : Nat} (h : k ≤ m) (g : sused l (k : Int) = false) : sall l m k = false := by rw [sall, if_pos h, g, Bool.false_and]
def sgr (l : List Pc) : Int × Bool := (smost l 0, sall l (smost l 0).toNat 1)
theorem ZdQ (l : List Pc) (hl : l.length ≤ 1099511627776) (ha : ∀ p ∈ l, p.arg ≤ 64) : PC C Zfs [slP l] (fun o => o = .ret (.tup [.int .i64 (sgr l).1, .bool (sgr l).2])) := by
  obtain ⟨M, hM⟩ : ∃ M, M = smost l 0 := ⟨_, rfl⟩
  obtain ⟨R, hR⟩ : ∃ R, R = sall l M.toNat 1 := ⟨_, rfl⟩
  unfold sgr
  rw [← hM, ← hR]
  refine PC.rn ZcO ZeW ZeX (rs := [.tmp 2, .tmp 3]) (by rw [ZeY]) ?_
  refine ARun.seq (ARun.region ?_); refine zza ?_; refine zza ?_; refine AOps.nil (ARun.seq (ARun.region ?_)); refine zza ?_; refine AOps.nil (ARun.seq (ARun.seq (ARun.region ?_))); refine zza ?_; refine AOps.nil (ARun.block ?_)
  refine ARun.loopI (S := Nat × Nat) (fun σ : Nat × Nat => [(9, .any), (10, .any), (11, .any), (12, .any), (13, .any), (14, .any), (15, .any), (16, .any), (17, .any), (18, .any), (19, .any), (20, .any), (21, .any), (5, .int .i64 (σ.1 : Int)), (4, .int .i64 (σ.2 : Int))]) (fun σ : Nat × Nat => []) (fun σ : Nat × Nat => σ.1 ≤ l.length ∧ σ.2 ≤ 64 ∧ M = smost (l.drop σ.1) (σ.2 : Int)) (fun σ : Nat × Nat => l.length - σ.1) ((0, 0)) ?_ ?_ ?_ ?_
  · exact ⟨Nat.zero_le _, Nat.zero_le _, hM⟩
  · (repeat' first | exact envLe_nil | apply envLe_any | apply envLe_same)
  · rfl
  rintro ⟨i, m⟩ hinv ih
  dsimp only at hinv ih ⊢
  obtain ⟨i1, i2, i3⟩ := hinv
  refine ARun.seq (ARun.seq (ARun.region ?_)); refine zzm ?_; refine zzm ?_; refine zzN ?_; refine zzi ?_; refine AOps.nil ?_
  refine ARun.ite rfl (fun g => ?_) (fun g => ?_)
  · skip
    have g : i < l.length := by omega
    rw [drop_getD l i pcZ g, smost] at i3
    have hd := pcs_drop l i g
    have hne := pcs_ne g
    have hp : (l.getD i pcZ).arg ≤ 64 := by rw [List.getD_eq_getElem?_getD, List.getElem?_eq_getElem g]; exact ha _ (List.getElem_mem g)
    generalize l.getD i pcZ = p at *
    refine ARun.skip (ARun.seq (ARun.block (ARun.region ?_))); refine zzm ?_; refine zzm ?_; refine zzm ?_
    refine y_op rfl (Zaf rfl rfl rfl rfl (by omega) (by omega) hne hd) ?_
    refine zzf ?_; refine zzl ?_
    refine y_op rfl (q_maxR rfl rfl (show max (m : Int) p.arg = (((max (m : Int) p.arg).toNat : Nat) : Int) by omega)) ?_
    refine zza ?_; refine AOps.nil (ARun.inBlock (ARun.region ?_)); refine zzm ?_
    refine y_op rfl (q_add rfl rfl (nadd1_i64 (by omega))) ?_
    refine zza ?_; refine AOps.nil ?_
    refine ARun.again (ih ((i + 1, (max (m : Int) p.arg).toNat)) ?_ ?_) ?_ ?_
    · exact ⟨g, by dsimp only; omega, by dsimp only; rw [i3, Int.toNat_of_nonneg (by omega)]⟩
    · (dsimp only; omega)
    · (repeat' first | exact envLe_nil | apply envLe_any | apply envLe_same)
    rfl
  rw [List.drop_eq_nil_of_le (by omega)] at i3
  have i3 : M = (m : Int) := i3
  subst i3
  rw [Int.toNat_natCast] at hR
  clear hM i1 g
  refine ARun.exit rfl ?_
  refine ARun.seq (ARun.seq (ARun.region ?_)); refine zza ?_; refine AOps.nil (ARun.block ?_)
  refine ARun.loopI (S := Nat) (fun k : Nat => [(2, .any), (3, .any), (7, .any), (8, .any), (22, .any), (23, .any), (24, .any), (25, .any), (26, .any), (27, .any), (28, .any), (29, .any), (30, .any), (31, .any), (32, .any), (33, .any), (34, .any), (35, .any), (36, .any), (37, .any), (38, .any), (39, .any), (40, .any), (41, .any), (42, .any), (43, .any), (44, .any), (45, .any), (6, .int .i64 (k : Int))]) (fun k : Nat => []) (fun k : Nat => k ≤ 65 ∧ R = sall l m k) (fun k : Nat => 65 - k) (1) ?_ ?_ ?_ ?_
  · exact ⟨by omega, hR⟩
  · (repeat' first | exact envLe_nil | apply envLe_any | apply envLe_same)
  · rfl
  rintro k hinv ih2
  obtain ⟨k1, k2⟩ := hinv
  refine ARun.seq (ARun.seq (ARun.region ?_)); refine zzm ?_; refine zzm ?_; refine zzi ?_; refine AOps.nil ?_
  refine ARun.ite rfl (fun f => ?_) (fun f => ?_)
  · skip
    have f : k ≤ m := by omega
    refine ARun.skip (ARun.seq (ARun.block (ARun.seq (ARun.region ?_)))); refine zza ?_; refine AOps.nil (ARun.seq (ARun.seq (ARun.region ?_))); refine zza ?_; refine AOps.nil (ARun.block ?_)
    refine ARun.loopI (S := Nat) (fun j : Nat => [(27, .any), (28, .any), (29, .any), (30, .any), (31, .any), (32, .any), (33, .any), (34, .any), (35, .any), (36, .any), (37, .any), (38, .any), (39, .any), (40, .any), (41, .any), (42, .any), (7, .bool (sused (l.take j) (k : Int))), (8, .int .i64 (j : Int))]) (fun j : Nat => []) (fun j : Nat => j ≤ l.length) (fun j : Nat => l.length - j) (0) ?_ ?_ ?_ ?_
    · exact Nat.zero_le _
    · (repeat' first | exact envLe_nil | apply envLe_any | apply envLe_same)
    · rfl
    rintro j hinv ih3
    refine ARun.seq (ARun.seq (ARun.region ?_)); refine zzm ?_; refine zzm ?_; refine zzN ?_; refine zzi ?_; refine AOps.nil ?_
    refine ARun.ite rfl (fun g => ?_) (fun g => ?_)
    · skip
      have g : j < l.length := by omega
      have hd := pcs_drop l j g
      have hne := pcs_ne g
      have hu : sused (l.take (j + 1)) (k : Int) = (sused (l.take j) (k : Int) || decide ((l.getD j pcZ).arg = (k : Int))) := by
        unfold sused
        rw [List.take_add_one, List.getElem?_eq_getElem g, List.any_append, List.getD_eq_getElem?_getD, List.getElem?_eq_getElem g]
        simp
      generalize l.getD j pcZ = p at *
      refine ARun.skip (ARun.seq (ARun.block (ARun.region ?_))); refine zzm ?_; refine zzm ?_
      apply AOps.orJ 34 (fun sj1 => [(34, .any), (35, .any), (36, .any), (37, .any), (38, .any), (39, .any), (40, .any), (41, .any), (42, .bool sj1)]) rfl
      · intro hj1 run1
        try replace hj1 := of_decide_eq_true hj1
        refine zzk ?_; refine zzk ?_; refine zzk ?_; refine zzk ?_; refine zzk ?_; refine zzk ?_; refine zzk ?_; refine zzp ?_
        exact AOps.ag run1
      · intro hj1 run1
        try replace hj1 := of_decide_eq_false hj1
        refine zzm ?_; refine zzm ?_
        refine y_op rfl (Zaf rfl rfl rfl rfl (by omega) (by omega) hne hd) ?_
        refine zzf ?_; refine zzl ?_; refine zzm ?_
        refine y_op rfl (OpQ.cast (d' := .bool (decide (p.arg = (k : Int)))) (q_int rfl rfl rfl) rfl) ?_
        refine zzp ?_
        exact AOps.ag run1
      refine zza ?_; refine AOps.nil (ARun.inBlock (ARun.region ?_)); refine zzm ?_
      refine y_op rfl (q_add rfl rfl (nadd1_i64 (by omega))) ?_
      refine zza ?_; refine AOps.nil ?_
      rw [← hu]
      refine ARun.again (ih3 (j + 1) ?_ ?_) ?_ ?_
      · exact g
      · omega
      · (repeat' first | exact envLe_nil | apply envLe_any | apply envLe_same)
      rfl
    obtain rfl : j = l.length := by omega
    rw [List.take_length]
    refine ARun.exit rfl ?_
    refine ARun.seq (ARun.region ?_); refine zzm ?_; refine zzn ?_; refine AOps.nil ?_
    refine ARun.cond rfl (fun u => ?_) (fun u => ?_)
    · skip
      have u : sused l (k : Int) = false := by simpa using u
      rw [sall_no f u] at k2
      subst k2
      refine ARun.seq (ARun.region ?_); refine zzm ?_; refine zza ?_; refine zza ?_; refine AOps.nil ?_
      refine ARun.ret ?_
      refine ⟨_, _, _, .tmp rfl (.tmp rfl .nil), .cons (.same _) (.cons (.same _) .nil), rfl, ?_⟩
      rfl
    have u : sused l (k : Int) = true := by simpa using u
    rw [sall_yes f u] at k2
    refine ARun.skip (ARun.inBlock (ARun.region ?_)); refine zzm ?_
    refine y_op rfl (q_add rfl rfl (nadd1_i64 (by omega))) ?_
    refine zza ?_; refine AOps.nil ?_
    refine ARun.again (ih2 (k + 1) ?_ ?_) ?_ ?_
    · exact ⟨by omega, k2⟩
    · omega
    · (repeat' first | exact envLe_nil | apply envLe_any | apply envLe_same)
    rfl
  rw [sall_end (by omega)] at k2
  subst k2
  refine ARun.exit rfl ?_
  refine ARun.seq (ARun.region ?_); refine zzm ?_; refine zza ?_; refine zza ?_; refine AOps.nil ?_
  refine ARun.ret ?_
  refine ⟨_, _, _, .tmp rfl (.tmp rfl .nil), .cons (.same _) (.cons (.same _) .nil), rfl, ?_⟩
  rfl
end Go.V
set_option maxHeartbeats 8000000
set_option maxRecDepth 100000
set_option synthInstance.maxSize 100000
set_option synthInstance.maxHeartbeats 2000000
namespace Go.V
open Go.RowKit Go.Proofs
def spl (p : Pc) : Bool := (decide (p.conv = 32) || decide (p.conv = 0)) || decide (p.conv = 37)
abbrev pcA (p : Pc) : D := .agg p.cells
theorem Zhj (p : Pc) : PC C Zg2 [pcA p] (fun o => o = .ret (.bool (spl p))) := by
  unfold spl
  refine PC.rn Zeh Zgr Zgs (rs := [.tmp 2]) (by rw [Zgt]) ?_
  refine ARun.seq (ARun.region ?_)
  refine y_new rfl (n_box rfl rfl rfl) ?_
  refine zza ?_; refine AOps.nil (ARun.seq (ARun.region ?_))
  refine y_op rfl (q_fldP rfl rfl rfl (by decide)) ?_
  refine y_op rfl (Zaa rfl rfl rfl rfl rfl) ?_
  refine y_op rfl (OpQ.cast (q_int rfl rfl rfl) (congrArg D.bool (int_dec (m := 32) rfl))) ?_
  refine zzm ?_
  apply AOps.orJ 6 (fun sj1 => [(6, .any), (7, .any), (8, .any), (9, .any), (10, .bool sj1)]) rfl
  · intro hj1 run1
    try replace hj1 := of_decide_eq_true hj1
    refine zzk ?_; refine zzk ?_; refine zzk ?_; refine zzp ?_
    exact AOps.ag run1
  · intro hj1 run1
    try replace hj1 := of_decide_eq_false hj1
    refine y_op rfl (q_fldP rfl rfl rfl (by decide)) ?_
    refine y_op rfl (Zaa rfl rfl rfl rfl rfl) ?_
    refine y_op rfl (OpQ.cast (q_int rfl rfl rfl) (congrArg D.bool (int_dec (m := 0) rfl))) ?_
    refine zzp ?_
    exact AOps.ag run1
  refine zzm ?_
  apply AOps.orJ 11 (fun sj2 => [(11, .any), (12, .any), (13, .any), (14, .any), (15, .bool sj2)]) rfl
  · intro hj2 run2
    try replace hj2 := of_decide_eq_true hj2
    refine zzk ?_; refine zzk ?_; refine zzk ?_; refine zzp ?_
    exact AOps.ag run2
  · intro hj2 run2
    try replace hj2 := of_decide_eq_false hj2
    refine y_op rfl (q_fldP rfl rfl rfl (by decide)) ?_
    refine y_op rfl (Zaa rfl rfl rfl rfl rfl) ?_
    refine y_op rfl (OpQ.cast (q_int rfl rfl rfl) (congrArg D.bool (int_dec (m := 37) rfl))) ?_
    refine zzp ?_
    exact AOps.ag run2
  refine zza ?_; refine AOps.nil ?_
  refine ARun.ret ?_
  refine ⟨_, _, _, .tmp rfl .nil, .cons (.same _) .nil, rfl, ?_⟩
  rfl
end Go.V
set_option maxHeartbeats 8000000
set_option maxRecDepth 100000
set_option synthInstance.maxSize 100000
set_option synthInstance.maxHeartbeats 2000000
namespace Go.V
open Go.RowKit Go.Proofs
theorem wf_u64 (n : Nat) (h : n < 18446744073709551616) : (Lit.int .u64 (n : Int)).wf = true := by
  have h0 : IntKind.u64.min = 0 := by decide
  have h1 : IntKind.u64.max = 18446744073709551615 := by decide
  simp only [Lit.wf, h0, h1]
  simp
  omega
theorem u64_lits (n : Nat) (h : n < 18446744073709551616) : C.P.keyLits 1 ZeL [.int .u64 (n : Int)] = some [.int .u64 (n : Int)] := by
  have hu : C.P.underlying ZeL = some (.int .u64) := by kernel_rfl
  unfold Program.keyLits
  simp only [hu, wf_u64 n h, and_self, if_true]
theorem set_lits {a b c d : Nat} (ha : a < 18446744073709551616) (hb : b < 18446744073709551616) (hc : c < 18446744073709551616) (hd : d < 18446744073709551616) :
    C.P.keyLits 2 Zac [.int .u64 (a : Int), .int .u64 (b : Int), .int .u64 (c : Int), .int .u64 (d : Int)] = some [.int .u64 (a : Int), .int .u64 (b : Int), .int .u64 (c : Int), .int .u64 (d : Int)] := by
  have hu : C.P.underlying Zac = some (.array 4 ZeL) := by kernel_rfl
  have h1 : C.P.cellsOf Zac = 4 := by kernel_rfl
  have h2 : C.P.cellsOf ZeL = 1 := by kernel_rfl
  unfold Program.keyLits
  simp only [hu, h1, h2]
  have hr : List.range 4 = [0, 1, 2, 3] := rfl
  rw [hr]
  simp [u64_lits _ ha, u64_lits _ hb, u64_lits _ hc, u64_lits _ hd]
def sEq (S T : Nat → Bool) : Bool := decide (sw S 0 = sw T 0 ∧ sw S 1 = sw T 1 ∧ sw S 2 = sw T 2 ∧ sw S 3 = sw T 3)
theorem Zh3 {env : List D} {H : Heap} {dst : Option Tmp} {x y : Operand} {ty T' : TypeId} {pos : String} {aft : Array Edge} {gd : Option (Nat × Bool)} {S T : Nat → Bool} (hx : evO C env x = some (setD S)) (hy : evO C env y = some (setD T)) :
    OpQ C ⟨dst, .binOp .eql Zac x y T', ty, pos, aft, gd⟩ env H (.bool (sEq S T)) :=
  ZgR (m := 2) (f := 2) (by kernel_rfl) (by decide) (by kernel_rfl) hx hy rfl rfl rfl rfl (set_lits (sw_lt S 0) (sw_lt S 1) (sw_lt S 2) (sw_lt S 3)) (set_lits (sw_lt T 0) (sw_lt T 1) (sw_lt T 2) (sw_lt T 3)) (by
    unfold sEq
    rw [decide_eq_true_eq]
    simp only [List.cons.injEq, Lit.int.injEq, true_and, and_true, Int.ofNat_inj]
    )
theorem sEq_ext {S T : Nat → Bool} : sEq S T = true ↔ ∀ c, c < 256 → S c = T c := by
  unfold sEq
  rw [decide_eq_true_eq]
  constructor
  · rintro ⟨h0, h1, h2, h3⟩ c hc
    have hj : c % 64 < 64 := Nat.mod_lt _ (by decide)
    have e : ∀ i, i < 4 → sw S i = sw T i := fun i hi => match i, hi with
      | 0, _ => h0 | 1, _ => h1 | 2, _ => h2 | 3, _ => h3
    have h := congrArg (fun x => x.testBit (c % 64)) (e (c / 64) (by omega))
    simp only [sw_bit _ _ hj] at h
    rw [show 64 * (c / 64) + c % 64 = c by omega] at h
    exact h
  intro h
  have e : ∀ i, i < 4 → sw S i = sw T i := fun i hi => sw_congr fun j hj => h _ (by omega)
  exact ⟨e 0 (by decide), e 1 (by decide), e 2 (by decide), e 3 (by decide)⟩
end Go.V
set_option maxHeartbeats 8000000
set_option maxRecDepth 100000
set_option synthInstance.maxSize 100000
set_option synthInstance.maxHeartbeats 2000000
namespace Go.V
open Go.RowKit Go.Proofs
theorem q_setZ {env : List D} {H : Heap} {dst : Option Tmp} {x y : Operand} {ty T' : TypeId} {pos : String} {aft : Array Edge} {gd : Option (Nat × Bool)} {S : Nat → Bool} (hx : evO C env x = some (setD S)) (hy : evO C env y = some (.agg [.int .u64 0, .int .u64 0, .int .u64 0, .int .u64 0])) :
    OpQ C ⟨dst, .binOp .eql Zac x y T', ty, pos, aft, gd⟩ env H (.bool (sEq S sempty)) := Zh3 hx (by rw [hy, ← swL_empty])
def svalid (p : Pc) : Bool :=
  bif spl p then (((decide (p.arg = 0) && decide (p.wid = 0)) && decide (p.len = 0)) && sEq p.set sempty) && ((decide (p.conv = 0) && slit p.lit) || (!decide (p.conv = 0) && decide (sby p.lit = [])))
  else bif (((((decide (sclass p.conv = 0) || !decide (sby p.lit = [])) || decide (p.arg < 0)) || decide (p.arg > 64)) || decide (p.wid < 0)) || decide (p.wid > 10000)) || !slong ((sclass p.conv : Nat) : Int) p.len then false
  else bif decide (p.conv = 110) && (decide (p.arg = 0) || decide (p.wid > 0)) then false
  else bif decide (p.conv = 91) then !p.set 0 else sEq p.set sempty
theorem ZhK (p : Pc) (hl : p.lit.size ≤ 1099511627776) (hc : p.conv < 256) : PC C Zg6 [pcA p] (fun o => o = .ret (.bool (svalid p))) := by
  obtain ⟨R, hR⟩ : ∃ R, R = svalid p := ⟨_, rfl⟩
  rw [← hR]
  unfold svalid at hR
  refine PC.rn Zej Zgu Zgv (rs := [.tmp 2]) (by rw [Zgw]) ?_
  refine ARun.seq (ARun.region ?_)
  refine y_new rfl (n_box rfl rfl rfl) ?_
  refine zza ?_; refine AOps.nil (ARun.seq (ARun.region ?_))
  refine y_op rfl (ZaW rfl rfl rfl) ?_
  refine y_new rfl (ZaN rfl rfl rfl rfl) ?_
  refine y_new rfl (Zak rfl rfl rfl rfl rfl rfl rfl rfl (Nat.le_of_ble_eq_true rfl) rfl) ?_
  refine AOps.nil (ARun.seq (ARun.seq (ARun.region ?_)))
  refine y_op rfl (Zab rfl rfl rfl rfl rfl rfl) ?_
  refine zzc rfl rfl (Zhj p) ?_
  refine AOps.nil ?_
  refine ARun.cond rfl (fun a => ?_) (fun a => ?_)
  · skip
    rw [a, cond_true] at hR
    refine ARun.seq (ARun.region ?_)
    refine y_op rfl (q_fldP rfl rfl rfl (by decide)) ?_
    refine y_op rfl (Zaa rfl rfl rfl rfl rfl) ?_
    refine zzi ?_; refine zzm ?_
    apply AOps.andJ 12 (fun sj1 => [(12, .any), (13, .any), (14, .any), (15, .any), (16, .bool sj1)]) rfl
    · intro hj1 run1
      try replace hj1 := of_decide_eq_true hj1
      refine y_op rfl (q_fldP rfl rfl rfl (by decide)) ?_
      refine y_op rfl (Zaa rfl rfl rfl rfl rfl) ?_
      refine zzi ?_; refine zzp ?_
      exact AOps.ag run1
    · intro hj1 run1
      try replace hj1 := of_decide_eq_false hj1
      refine zzk ?_; refine zzk ?_; refine zzk ?_; refine zzp ?_
      exact AOps.ag run1
    refine zzm ?_
    apply AOps.andJ 17 (fun sj2 => [(17, .any), (18, .any), (19, .any), (20, .any), (21, .bool sj2)]) rfl
    · intro hj2 run2
      try replace hj2 := of_decide_eq_true hj2
      refine y_op rfl (q_fldP rfl rfl rfl (by decide)) ?_
      refine y_op rfl (Zaa rfl rfl rfl rfl rfl) ?_
      refine zzi ?_; refine zzp ?_
      exact AOps.ag run2
    · intro hj2 run2
      try replace hj2 := of_decide_eq_false hj2
      refine zzk ?_; refine zzk ?_; refine zzk ?_; refine zzp ?_
      exact AOps.ag run2
    refine zzm ?_
    apply AOps.andJ 22 (fun sj3 => [(22, .any), (23, .any), (24, .any), (25, .any), (26, .any), (27, .bool sj3)]) rfl
    · intro hj3 run3
      try replace hj3 := of_decide_eq_true hj3
      refine y_op rfl (q_fldP rfl rfl rfl (by decide)) ?_
      refine y_op rfl (Zab rfl rfl rfl rfl rfl rfl) ?_
      refine y_op rfl (Zab rfl rfl rfl rfl rfl rfl) ?_
      refine y_op rfl (q_setZ rfl rfl) ?_
      refine zzp ?_
      exact AOps.ag run3
    · intro hj3 run3
      try replace hj3 := of_decide_eq_false hj3
      refine zzk ?_; refine zzk ?_; refine zzk ?_; refine zzk ?_; refine zzp ?_
      exact AOps.ag run3
    refine zza ?_; refine AOps.nil (ARun.seq (ARun.region ?_)); refine zzm ?_; refine zzm ?_
    apply AOps.andJ 29 (fun sj4 => [(29, .any), (30, .any), (31, .any), (32, .any), (33, .any), (34, .any), (35, .any), (36, .any), (37, .any), (38, .any), (39, .any), (40, .any), (41, .any), (42, .any), (43, .any), (44, .any), (45, .any), (46, .any), (47, .any), (48, .bool sj4)]) rfl
    · intro hj4 run4
      try replace hj4 := of_decide_eq_true hj4
      refine y_op rfl (q_fldP rfl rfl rfl (by decide)) ?_
      refine y_op rfl (Zaa rfl rfl rfl rfl rfl) ?_
      refine y_op rfl (OpQ.cast (q_int rfl rfl rfl) (congrArg D.bool (int_dec (m := 0) rfl))) ?_
      refine zzm ?_
      apply AOps.andJ 33 (fun sj5 => [(33, .any), (34, .any), (35, .any), (36, .any), (37, .bool sj5)]) rfl
      · intro hj5 run5
        try replace hj5 := of_decide_eq_true hj5
        refine y_op rfl (q_fldP rfl rfl rfl (by decide)) ?_
        refine y_op rfl (Zaa rfl rfl rfl rfl rfl) ?_
        refine zzc rfl rfl (ZgG p.lit hl) ?_
        refine zzp ?_
        exact AOps.ag run5
      · intro hj5 run5
        try replace hj5 := of_decide_eq_false hj5
        refine zzk ?_; refine zzk ?_; refine zzk ?_; refine zzp ?_
        exact AOps.ag run5
      refine zzm ?_
      apply AOps.orJ 38 (fun sj6 => [(38, .any), (39, .any), (40, .any), (41, .any), (42, .any), (43, .any), (44, .any), (45, .any), (46, .any), (47, .bool sj6)]) rfl
      · intro hj6 run6
        try replace hj6 := of_decide_eq_true hj6
        refine zzk ?_; refine zzk ?_; refine zzk ?_; refine zzk ?_; refine zzk ?_; refine zzk ?_; refine zzk ?_; refine zzk ?_; refine zzp ?_
        exact AOps.ag run6
      · intro hj6 run6
        try replace hj6 := of_decide_eq_false hj6
        refine y_op rfl (q_fldP rfl rfl rfl (by decide)) ?_
        refine y_op rfl (Zaa rfl rfl rfl rfl rfl) ?_
        refine y_op rfl (OpQ.cast (d' := .bool (!decide (p.conv = 0))) (q_int rfl rfl rfl) (congrArg D.bool ((u8_ne (m := 0) rfl).trans (decide_not)))) ?_
        refine zzm ?_
        apply AOps.andJ 42 (fun sj7 => [(42, .any), (43, .any), (44, .any), (45, .any), (46, .bool sj7)]) rfl
        · intro hj7 run7
          try replace hj7 := of_decide_eq_true hj7
          refine y_op rfl (q_fldP rfl rfl rfl (by decide)) ?_
          refine y_op rfl (Zaa rfl rfl rfl rfl rfl) ?_
          refine y_op rfl (OpQ.cast (ZeM rfl rfl) (congrArg D.bool (show _ = decide (sby p.lit = []) by rw [str_eq]; rfl))) ?_
          refine zzp ?_
          exact AOps.ag run7
        · intro hj7 run7
          try replace hj7 := of_decide_eq_false hj7
          refine zzk ?_; refine zzk ?_; refine zzk ?_; refine zzp ?_
          exact AOps.ag run7
        refine zzp ?_
        exact AOps.ag run6
      refine zzp ?_
      exact AOps.ag run4
    · intro hj4 run4
      try replace hj4 := of_decide_eq_false hj4
      refine zzk ?_; refine zzk ?_; refine zzk ?_; refine zzk ?_; refine zzk ?_; refine zzk ?_; refine zzk ?_; refine zzk ?_; refine zzk ?_; refine zzk ?_; refine zzk ?_; refine zzk ?_; refine zzk ?_; refine zzk ?_; refine zzk ?_; refine zzk ?_; refine zzk ?_; refine zzk ?_; refine zzp ?_
      exact AOps.ag run4
    refine zza ?_; refine AOps.nil ?_
    subst hR
    refine ARun.ret ?_
    refine ⟨_, _, _, .tmp rfl .nil, .cons (.same _) .nil, rfl, ?_⟩
    rfl
  rw [a, cond_false] at hR
  refine ARun.skip (ARun.seq (ARun.region ?_))
  refine y_op rfl (q_fldP rfl rfl rfl (by decide)) ?_
  refine y_op rfl (Zaa rfl rfl rfl rfl rfl) ?_
  refine zzc rfl rfl (ZhJ p.conv hc) ?_
  refine zza ?_; refine AOps.nil (ARun.seq (ARun.seq (ARun.region ?_))); refine zzm ?_
  refine y_op rfl (OpQ.cast (d' := .bool (decide (sclass p.conv = 0))) (q_int rfl rfl rfl) (congrArg D.bool (decide_eq_decide.2 (by omega)))) ?_
  refine zzm ?_
  apply AOps.orJ 54 (fun sj8 => [(54, .any), (55, .any), (56, .any), (57, .any), (58, .bool sj8)]) rfl
  · intro hj8 run8
    try replace hj8 := of_decide_eq_true hj8
    refine zzk ?_; refine zzk ?_; refine zzk ?_; refine zzp ?_
    exact AOps.ag run8
  · intro hj8 run8
    try replace hj8 := of_decide_eq_false hj8
    refine y_op rfl (q_fldP rfl rfl rfl (by decide)) ?_
    refine y_op rfl (Zaa rfl rfl rfl rfl rfl) ?_
    refine y_op rfl (OpQ.cast (ZfT rfl rfl) (congrArg D.bool (show _ = !decide (sby p.lit = []) by rw [str_eq]; rfl))) ?_
    refine zzp ?_
    exact AOps.ag run8
  refine zzm ?_
  apply AOps.orJ 59 (fun sj9 => [(59, .any), (60, .any), (61, .any), (62, .any), (63, .bool sj9)]) rfl
  · intro hj9 run9
    try replace hj9 := of_decide_eq_true hj9
    refine zzk ?_; refine zzk ?_; refine zzk ?_; refine zzp ?_
    exact AOps.ag run9
  · intro hj9 run9
    try replace hj9 := of_decide_eq_false hj9
    refine y_op rfl (q_fldP rfl rfl rfl (by decide)) ?_
    refine y_op rfl (Zaa rfl rfl rfl rfl rfl) ?_
    refine zzi ?_; refine zzp ?_
    exact AOps.ag run9
  refine zzm ?_
  apply AOps.orJ 64 (fun sj10 => [(64, .any), (65, .any), (66, .any), (67, .any), (68, .bool sj10)]) rfl
  · intro hj10 run10
    try replace hj10 := of_decide_eq_true hj10
    refine zzk ?_; refine zzk ?_; refine zzk ?_; refine zzp ?_
    exact AOps.ag run10
  · intro hj10 run10
    try replace hj10 := of_decide_eq_false hj10
    refine y_op rfl (q_fldP rfl rfl rfl (by decide)) ?_
    refine y_op rfl (Zaa rfl rfl rfl rfl rfl) ?_
    refine zzi ?_; refine zzp ?_
    exact AOps.ag run10
  refine zzm ?_
  apply AOps.orJ 69 (fun sj11 => [(69, .any), (70, .any), (71, .any), (72, .any), (73, .bool sj11)]) rfl
  · intro hj11 run11
    try replace hj11 := of_decide_eq_true hj11
    refine zzk ?_; refine zzk ?_; refine zzk ?_; refine zzp ?_
    exact AOps.ag run11
  · intro hj11 run11
    try replace hj11 := of_decide_eq_false hj11
    refine y_op rfl (q_fldP rfl rfl rfl (by decide)) ?_
    refine y_op rfl (Zaa rfl rfl rfl rfl rfl) ?_
    refine zzi ?_; refine zzp ?_
    exact AOps.ag run11
  refine zzm ?_
  apply AOps.orJ 74 (fun sj12 => [(74, .any), (75, .any), (76, .any), (77, .any), (78, .bool sj12)]) rfl
  · intro hj12 run12
    try replace hj12 := of_decide_eq_true hj12
    refine zzk ?_; refine zzk ?_; refine zzk ?_; refine zzp ?_
    exact AOps.ag run12
  · intro hj12 run12
    try replace hj12 := of_decide_eq_false hj12
    refine y_op rfl (q_fldP rfl rfl rfl (by decide)) ?_
    refine y_op rfl (Zaa rfl rfl rfl rfl rfl) ?_
    refine zzi ?_; refine zzp ?_
    exact AOps.ag run12
  refine zzm ?_
  apply AOps.orJ 79 (fun sj13 => [(79, .any), (80, .any), (81, .any), (82, .any), (83, .any), (84, .any), (85, .bool sj13)]) rfl
  · intro hj13 run13
    try replace hj13 := of_decide_eq_true hj13
    refine zzk ?_; refine zzk ?_; refine zzk ?_; refine zzk ?_; refine zzk ?_; refine zzp ?_
    exact AOps.ag run13
  · intro hj13 run13
    try replace hj13 := of_decide_eq_false hj13
    refine zzm ?_
    refine y_op rfl (q_fldP rfl rfl rfl (by decide)) ?_
    refine y_op rfl (Zaa rfl rfl rfl rfl rfl) ?_
    refine zzc rfl rfl (Zh2 ((sclass p.conv : Nat) : Int) p.len) ?_
    refine zzn ?_; refine zzp ?_
    exact AOps.ag run13
  refine AOps.nil ?_
  refine ARun.cond rfl (fun b => ?_) (fun b => ?_)
  · skip
    rw [b, cond_true] at hR
    subst hR
    refine ARun.seq (ARun.region ?_); refine zza ?_; refine AOps.nil ?_
    refine ARun.ret ?_
    refine ⟨_, _, _, .tmp rfl .nil, .cons (.same _) .nil, rfl, ?_⟩
    rfl
  rw [b, cond_false] at hR
  clear b a
  refine ARun.skip (ARun.seq (ARun.seq (ARun.region ?_)))
  refine y_op rfl (q_fldP rfl rfl rfl (by decide)) ?_
  refine y_op rfl (Zaa rfl rfl rfl rfl rfl) ?_
  refine y_op rfl (OpQ.cast (q_int rfl rfl rfl) (congrArg D.bool (int_dec (m := 110) rfl))) ?_
  refine zzm ?_
  apply AOps.andJ 89 (fun sj14 => [(89, .any), (90, .any), (91, .any), (92, .any), (93, .any), (94, .any), (95, .any), (96, .any), (97, .any), (98, .bool sj14)]) rfl
  · intro hj14 run14
    try replace hj14 := of_decide_eq_true hj14
    refine y_op rfl (q_fldP rfl rfl rfl (by decide)) ?_
    refine y_op rfl (Zaa rfl rfl rfl rfl rfl) ?_
    refine y_op rfl (OpQ.cast (d' := .bool (decide (p.arg = 0))) (q_int rfl rfl rfl) rfl) ?_
    refine zzm ?_
    apply AOps.orJ 93 (fun sj15 => [(93, .any), (94, .any), (95, .any), (96, .any), (97, .bool sj15)]) rfl
    · intro hj15 run15
      try replace hj15 := of_decide_eq_true hj15
      refine zzk ?_; refine zzk ?_; refine zzk ?_; refine zzp ?_
      exact AOps.ag run15
    · intro hj15 run15
      try replace hj15 := of_decide_eq_false hj15
      refine y_op rfl (q_fldP rfl rfl rfl (by decide)) ?_
      refine y_op rfl (Zaa rfl rfl rfl rfl rfl) ?_
      refine zzi ?_; refine zzp ?_
      exact AOps.ag run15
    refine zzp ?_
    exact AOps.ag run14
  · intro hj14 run14
    try replace hj14 := of_decide_eq_false hj14
    refine zzk ?_; refine zzk ?_; refine zzk ?_; refine zzk ?_; refine zzk ?_; refine zzk ?_; refine zzk ?_; refine zzk ?_; refine zzp ?_
    exact AOps.ag run14
  refine AOps.nil ?_
  refine ARun.cond rfl (fun d => ?_) (fun d => ?_)
  · skip
    rw [d, cond_true] at hR
    subst hR
    refine ARun.seq (ARun.region ?_); refine zza ?_; refine AOps.nil ?_
    refine ARun.ret ?_
    refine ⟨_, _, _, .tmp rfl .nil, .cons (.same _) .nil, rfl, ?_⟩
    rfl
  rw [d, cond_false] at hR
  clear d
  refine ARun.skip (ARun.seq (ARun.seq (ARun.region ?_)))
  refine y_op rfl (q_fldP rfl rfl rfl (by decide)) ?_
  refine y_op rfl (Zaa rfl rfl rfl rfl rfl) ?_
  refine y_op rfl (OpQ.cast (q_int rfl rfl rfl) (congrArg D.bool (int_dec (m := 91) rfl))) ?_
  refine AOps.nil ?_
  refine ARun.ite rfl (fun e => ?_) (fun e => ?_)
  · skip
    rw [decide_eq_true e, cond_true] at hR
    subst hR
    refine ARun.seq (ARun.region ?_)
    refine y_op rfl (q_fldP rfl rfl rfl (by decide)) ?_
    refine y_op rfl (Zab rfl rfl rfl rfl rfl rfl) ?_
    refine zzc rfl rfl (ZaM p.set 0 (by decide)) ?_
    refine zzn ?_; refine zza ?_; refine AOps.nil ?_
    refine ARun.ret ?_
    refine ⟨_, _, _, .tmp rfl .nil, .cons (.same _) .nil, rfl, ?_⟩
    rfl
  rw [decide_eq_false e, cond_false] at hR
  subst hR
  refine ARun.skip (ARun.seq (ARun.region ?_))
  refine y_op rfl (q_fldP rfl rfl rfl (by decide)) ?_
  refine y_op rfl (Zab rfl rfl rfl rfl rfl rfl) ?_
  refine y_op rfl (Zab rfl rfl rfl rfl rfl rfl) ?_
  refine y_op rfl (q_setZ rfl rfl) ?_
  refine zza ?_; refine AOps.nil ?_
  refine ARun.ret ?_
  refine ⟨_, _, _, .tmp rfl .nil, .cons (.same _) .nil, rfl, ?_⟩
  rfl
end Go.V
set_option maxHeartbeats 8000000
set_option maxRecDepth 100000
set_option synthInstance.maxSize 100000
set_option synthInstance.maxHeartbeats 2000000
namespace Go.V
open Go.RowKit Go.Proofs
def sadj (l : List Pc) (i : Nat) : Bool := decide (0 < i) && (decide ((l.getD i pcZ).conv = (l.getD (i - 1) pcZ).conv) && (decide ((l.getD i pcZ).conv = 0) || decide ((l.getD i pcZ).conv = 32)))
def sbad (l : List Pc) (i : Nat) : Bool := !svalid (l.getD i pcZ) || sadj l i
def schk (l : List Pc) (i : Nat) : Int × Int := if i < l.length then (bif sbad l i then (1, (i : Int)) else schk l (i + 1)) else bif (sgr l).2 then (0, 0) else (1, (l.length : Int))
termination_by l.length - i
def scheck (l : List Pc) : Int × Int := if 500 < l.length then (2, 0) else schk l 0
theorem schk_bad {l : List Pc} {i : Nat} (h : i < l.length) (g : sbad l i = true) : schk l i = (1, (i : Int)) := by rw [schk, if_pos h, g]; rfl
theorem schk_go {l : List Pc} {i : Nat} (h : i < l.length) (g : sbad l i = false) : schk l i = schk l (i + 1) := by rw [schk, if_pos h, g]; rfl
theorem schk_end {l : List Pc} {i : Nat} (h : ¬ i < l.length) : schk l i = bif (sgr l).2 then (0, 0) else (1, (l.length : Int)) := by rw [schk, if_neg h]
def PcW (p : Pc) : Prop := p.lit.size ≤ 1099511627776 ∧ p.conv < 256
theorem svalid_arg {p : Pc} (h : svalid p = true) : p.arg ≤ 64 := by
  unfold svalid at h
  cases a : spl p
  · rw [a, cond_false] at h
    cases b : (((((decide (sclass p.conv = 0) || !decide (sby p.lit = [])) || decide (p.arg < 0)) || decide (p.arg > 64)) || decide (p.wid < 0)) || decide (p.wid > 10000)) || !slong ((sclass p.conv : Nat) : Int) p.len
    · simp only [Bool.or_eq_false_iff, decide_eq_false_iff_not] at b
      omega
    rw [b] at h; cases h
  rw [a, cond_true] at h
  simp only [Bool.and_eq_true, decide_eq_true_eq] at h
  omega
theorem ZcV (l : List Pc) (hw : ∀ p ∈ l, PcW p) (hl : l.length ≤ 1099511627776) : PC C ZgX [slP l] (fun o => o = .ret (.tup [.int .i64 (scheck l).1, .int .i64 (scheck l).2])) := by
  obtain ⟨R, hR⟩ : ∃ R, R = scheck l := ⟨_, rfl⟩
  rw [← hR]
  unfold scheck at hR
  refine PC.rn Zef Zgl Zgm (rs := [.tmp 2, .tmp 3]) (by rw [Zgn]) ?_
  refine ARun.seq (ARun.region ?_); refine zza ?_; refine zza ?_; refine AOps.nil (ARun.seq (ARun.seq (ARun.region ?_))); refine zzm ?_; refine zzN ?_; refine zzi ?_; refine AOps.nil ?_
  refine ARun.ite rfl (fun a => ?_) (fun a => ?_)
  · skip
    rw [if_pos (show 500 < l.length by omega)] at hR
    subst hR
    refine ARun.seq (ARun.region ?_); refine zza ?_; refine zza ?_; refine AOps.nil ?_
    refine ARun.ret ?_
    refine ⟨_, _, _, .tmp rfl (.tmp rfl .nil), .cons (.same _) (.cons (.same _) .nil), rfl, ?_⟩
    rfl
  rw [if_neg (show ¬ 500 < l.length by omega)] at hR
  have a5 : l.length ≤ 500 := by omega
  clear a
  refine ARun.skip (ARun.seq (ARun.seq (ARun.region ?_))); refine zza ?_; refine AOps.nil (ARun.block ?_)
  refine ARun.loopI (S := Nat) (fun i : Nat => [(2, .any), (3, .any), (10, .any), (11, .any), (12, .any), (13, .any), (14, .any), (15, .any), (16, .any), (17, .any), (18, .any), (19, .any), (20, .any), (21, .any), (22, .any), (23, .any), (24, .any), (25, .any), (26, .any), (27, .any), (28, .any), (29, .any), (30, .any), (31, .any), (32, .any), (33, .any), (34, .any), (35, .any), (36, .any), (37, .any), (38, .any), (39, .any), (40, .any), (41, .any), (42, .any), (43, .any), (44, .any), (45, .any), (46, .any), (47, .any), (48, .any), (49, .any), (50, .any), (51, .any), (52, .any), (53, .any), (54, .any), (55, .any), (56, .any), (4, .int .i64 (i : Int))]) (fun i : Nat => []) (fun i : Nat => i ≤ l.length ∧ R = schk l i ∧ ∀ j, j < i → svalid (l.getD j pcZ) = true) (fun i : Nat => l.length - i) (0) ?_ ?_ ?_ ?_
  · exact ⟨Nat.zero_le _, hR, fun j h => absurd h (Nat.not_lt_zero j)⟩
  · (repeat' first | exact envLe_nil | apply envLe_any | apply envLe_same)
  · rfl
  rintro i hinv ih
  obtain ⟨i1, i2, i3⟩ := hinv
  refine ARun.seq (ARun.seq (ARun.region ?_)); refine zzm ?_; refine zzm ?_; refine zzN ?_; refine zzi ?_; refine AOps.nil ?_
  refine ARun.ite rfl (fun g => ?_) (fun g => ?_)
  · skip
    have g : i < l.length := by omega
    have hd := pcs_drop l i g
    have hne := pcs_ne g
    have hpw : PcW (l.getD i pcZ) := by rw [List.getD_eq_getElem?_getD, List.getElem?_eq_getElem g]; exact hw _ (List.getElem_mem g)
    obtain ⟨p, hp⟩ : ∃ p, p = l.getD i pcZ := ⟨_, rfl⟩
    rw [← hp] at hd hpw
    have hV := ZhK p hpw.1 hpw.2
    have hb : sbad l i = (!svalid p || sadj l i) := by rw [hp]; rfl
    have hset : svalid p = true → ∀ j, j < i + 1 → svalid (l.getD j pcZ) = true := fun h j hj => (Nat.lt_or_eq_of_le (Nat.le_of_lt_succ hj)).elim (i3 j) (fun e => by rw [e, ← hp]; exact h)
    cases v : svalid p
    · rw [v] at hV hb
      have hb : sbad l i = true := hb
      rw [schk_bad g hb] at i2
      subst i2
      refine ARun.skip (ARun.seq (ARun.block (ARun.seq ?_)))
      refine ARun.drawnP 40 (fun _ => False) mixC rfl rfl (by kernel_rfl) (fun _ _ h => h.elim) ?_
      refine .op rfl (q_move rfl) ?_
      refine .op rfl (q_move rfl) ?_
      refine .op rfl (Zaf rfl rfl rfl rfl (by omega) (by omega) hne hd) ?_
      refine .op rfl (Zaj rfl rfl rfl rfl rfl) ?_
      refine .op rfl (q_call rfl rfl (hV)) ?_
      refine .op rfl (q_not rfl) ?_
      refine .op rfl (q_move rfl) ?_
      refine .skip rfl ?_
      refine .skip rfl ?_
      refine .skip rfl ?_
      refine .skip rfl ?_
      refine .skip rfl ?_
      refine .skip rfl ?_
      refine .skip rfl ?_
      refine .skip rfl ?_
      refine .skip rfl ?_
      refine .skip rfl ?_
      refine .skip rfl ?_
      refine .skip rfl ?_
      refine .skip rfl ?_
      refine .skip rfl ?_
      refine .skip rfl ?_
      refine .skip rfl ?_
      refine .skip rfl ?_
      refine .skip rfl ?_
      refine .skip rfl ?_
      refine .skip rfl ?_
      refine .skip rfl ?_
      refine .skip rfl ?_
      refine .skip rfl ?_
      refine .skip rfl ?_
      refine .skip rfl ?_
      refine .skip rfl ?_
      refine .skip rfl ?_
      refine .skip rfl ?_
      refine .skip rfl ?_
      refine .skip rfl ?_
      refine .skip rfl ?_
      refine .skip rfl ?_
      refine .op rfl (q_pick rfl rfl rfl rfl) ?_
      refine .nil (fun hG => ?_)
      refine AOps.nil ?_
      refine ARun.condT rfl ?_
      refine ARun.seq (ARun.region ?_); refine zzm ?_; refine zza ?_; refine zza ?_; refine AOps.nil ?_
      refine ARun.ret ?_
      refine ⟨_, _, _, .tmp rfl (.tmp rfl .nil), .cons (.same _) (.cons (.same _) .nil), rfl, ?_⟩
      rfl
    rw [v] at hV hb
    have hb : sbad l i = sadj l i := hb
    rcases Nat.eq_zero_or_pos i with h0 | h0
    · have hb : sbad l i = false := by rw [hb]; unfold sadj; rw [decide_eq_false (show ¬ 0 < i by omega)]; rfl
      rw [schk_go g hb] at i2
      refine ARun.skip (ARun.seq (ARun.block (ARun.seq ?_)))
      refine ARun.drawnP 40 (fun _ => False) mixC rfl rfl (by kernel_rfl) (fun _ _ h => h.elim) ?_
      refine .op rfl (q_move rfl) ?_
      refine .op rfl (q_move rfl) ?_
      refine .op rfl (Zaf rfl rfl rfl rfl (by omega) (by omega) hne hd) ?_
      refine .op rfl (Zaj rfl rfl rfl rfl rfl) ?_
      refine .op rfl (q_call rfl rfl (hV)) ?_
      refine .op rfl (q_not rfl) ?_
      refine .op rfl (q_move rfl) ?_
      refine .op rfl (q_move rfl) ?_
      refine .op rfl (OpQ.cast (d' := .bool false) (q_int rfl rfl rfl) (congrArg D.bool (decide_eq_false (by omega)))) ?_
      refine .op rfl (q_move rfl) ?_
      refine .skip rfl ?_
      refine .skip rfl ?_
      refine .skip rfl ?_
      refine .skip rfl ?_
      refine .skip rfl ?_
      refine .skip rfl ?_
      refine .skip rfl ?_
      refine .skip rfl ?_
      refine .skip rfl ?_
      refine .skip rfl ?_
      refine .skip rfl ?_
      refine .skip rfl ?_
      refine .op rfl (q_pick rfl rfl rfl rfl) ?_
      refine .op rfl (q_move rfl) ?_
      refine .skip rfl ?_
      refine .skip rfl ?_
      refine .skip rfl ?_
      refine .skip rfl ?_
      refine .skip rfl ?_
      refine .skip rfl ?_
      refine .skip rfl ?_
      refine .skip rfl ?_
      refine .skip rfl ?_
      refine .skip rfl ?_
      refine .skip rfl ?_
      refine .skip rfl ?_
      refine .skip rfl ?_
      refine .skip rfl ?_
      refine .op rfl (q_pick rfl rfl rfl rfl) ?_
      refine .op rfl (q_pick rfl rfl rfl rfl) ?_
      refine .nil (fun hG => ?_)
      refine AOps.nil ?_
      refine ARun.condF rfl ?_
      refine ARun.skip (ARun.inBlock (ARun.region ?_)); refine zzm ?_
      refine y_op rfl (q_add rfl rfl (nadd1_i64 (by omega))) ?_
      refine zza ?_; refine AOps.nil ?_
      refine ARun.again (ih (i + 1) ?_ ?_) ?_ ?_
      · exact ⟨g, i2, hset v⟩
      · omega
      · (repeat' first | exact envLe_nil | apply envLe_any | apply envLe_same)
      rfl
    have hdr := pcs_drop l (i - 1) (by omega)
    have hb : sbad l i = (decide (p.conv = (l.getD (i - 1) pcZ).conv) && (decide (p.conv = 0) || decide (p.conv = 32))) := by rw [hb]; unfold sadj; rw [decide_eq_true h0, Bool.true_and, ← hp]
    generalize l.getD (i - 1) pcZ = r at *
    by_cases hcc : p.conv = r.conv
    · rw [decide_eq_true hcc, Bool.true_and] at hb
      by_cases hz : p.conv = 0
      · rw [decide_eq_true hz, Bool.true_or] at hb
        rw [schk_bad g hb] at i2
        subst i2
        refine ARun.skip (ARun.seq (ARun.block (ARun.seq ?_)))
        refine ARun.drawnP 40 (fun _ => False) mixC rfl rfl (by kernel_rfl) (fun _ _ h => h.elim) ?_
        refine .op rfl (q_move rfl) ?_
        refine .op rfl (q_move rfl) ?_
        refine .op rfl (Zaf rfl rfl rfl rfl (by omega) (by omega) hne hd) ?_
        refine .op rfl (Zaj rfl rfl rfl rfl rfl) ?_
        refine .op rfl (q_call rfl rfl (hV)) ?_
        refine .op rfl (q_not rfl) ?_
        refine .op rfl (q_move rfl) ?_
        refine .op rfl (q_move rfl) ?_
        refine .op rfl (OpQ.cast (d' := .bool true) (q_int rfl rfl rfl) (congrArg D.bool (decide_eq_true (by omega)))) ?_
        refine .op rfl (q_move rfl) ?_
        refine .op rfl (q_move rfl) ?_
        refine .op rfl (q_move rfl) ?_
        refine .op rfl (Zaf rfl rfl rfl rfl (by omega) (by omega) hne hd) ?_
        refine .op rfl (q_fldS rfl rfl rfl (by decide)) ?_
        refine .op rfl (q_load rfl rfl rfl rfl) ?_
        refine .op rfl (q_move rfl) ?_
        refine .op rfl (q_move rfl) ?_
        refine .op rfl (OpQ.cast (d' := .int .i64 ((i - 1 : Nat) : Int)) (q_int rfl rfl rfl) (congrArg (D.int .i64) (by show IntKind.i64.wrap _ = _; rw [IntWalk.i64_in _ (by omega)]; omega))) ?_
        refine .op rfl (Zaf rfl rfl rfl rfl (by omega) (by omega) hne hdr) ?_
        refine .op rfl (q_fldS rfl rfl rfl (by decide)) ?_
        refine .op rfl (q_load rfl rfl rfl rfl) ?_
        refine .op rfl (OpQ.cast (d' := .bool true) (q_int rfl rfl rfl) (congrArg D.bool ((int_dec (m := r.conv) rfl).trans (decide_eq_true hcc)))) ?_
        refine .op rfl (q_pick rfl rfl rfl rfl) ?_
        refine .op rfl (q_move rfl) ?_
        refine .op rfl (q_move rfl) ?_
        refine .op rfl (q_move rfl) ?_
        refine .op rfl (Zaf rfl rfl rfl rfl (by omega) (by omega) hne hd) ?_
        refine .op rfl (q_fldS rfl rfl rfl (by decide)) ?_
        refine .op rfl (q_load rfl rfl rfl rfl) ?_
        refine .op rfl (OpQ.cast (d' := .bool true) (q_int rfl rfl rfl) (congrArg D.bool ((int_dec (m := 0) rfl).trans (decide_eq_true hz)))) ?_
        refine .op rfl (q_move rfl) ?_
        refine .skip rfl ?_
        refine .skip rfl ?_
        refine .skip rfl ?_
        refine .skip rfl ?_
        refine .skip rfl ?_
        refine .skip rfl ?_
        refine .op rfl (q_pick rfl rfl rfl rfl) ?_
        refine .op rfl (q_pick rfl rfl rfl rfl) ?_
        refine .op rfl (q_pick rfl rfl rfl rfl) ?_
        refine .nil (fun hG => ?_)
        refine AOps.nil ?_
        refine ARun.condT rfl ?_
        refine ARun.seq (ARun.region ?_); refine zzm ?_; refine zza ?_; refine zza ?_; refine AOps.nil ?_
        refine ARun.ret ?_
        refine ⟨_, _, _, .tmp rfl (.tmp rfl .nil), .cons (.same _) (.cons (.same _) .nil), rfl, ?_⟩
        rfl
      rw [decide_eq_false hz, Bool.false_or] at hb
      by_cases ht : p.conv = 32
      · rw [decide_eq_true ht] at hb
        rw [schk_bad g hb] at i2
        subst i2
        refine ARun.skip (ARun.seq (ARun.block (ARun.seq ?_)))
        refine ARun.drawnP 40 (fun _ => False) mixC rfl rfl (by kernel_rfl) (fun _ _ h => h.elim) ?_
        refine .op rfl (q_move rfl) ?_
        refine .op rfl (q_move rfl) ?_
        refine .op rfl (Zaf rfl rfl rfl rfl (by omega) (by omega) hne hd) ?_
        refine .op rfl (Zaj rfl rfl rfl rfl rfl) ?_
        refine .op rfl (q_call rfl rfl (hV)) ?_
        refine .op rfl (q_not rfl) ?_
        refine .op rfl (q_move rfl) ?_
        refine .op rfl (q_move rfl) ?_
        refine .op rfl (OpQ.cast (d' := .bool true) (q_int rfl rfl rfl) (congrArg D.bool (decide_eq_true (by omega)))) ?_
        refine .op rfl (q_move rfl) ?_
        refine .op rfl (q_move rfl) ?_
        refine .op rfl (q_move rfl) ?_
        refine .op rfl (Zaf rfl rfl rfl rfl (by omega) (by omega) hne hd) ?_
        refine .op rfl (q_fldS rfl rfl rfl (by decide)) ?_
        refine .op rfl (q_load rfl rfl rfl rfl) ?_
        refine .op rfl (q_move rfl) ?_
        refine .op rfl (q_move rfl) ?_
        refine .op rfl (OpQ.cast (d' := .int .i64 ((i - 1 : Nat) : Int)) (q_int rfl rfl rfl) (congrArg (D.int .i64) (by show IntKind.i64.wrap _ = _; rw [IntWalk.i64_in _ (by omega)]; omega))) ?_
        refine .op rfl (Zaf rfl rfl rfl rfl (by omega) (by omega) hne hdr) ?_
        refine .op rfl (q_fldS rfl rfl rfl (by decide)) ?_
        refine .op rfl (q_load rfl rfl rfl rfl) ?_
        refine .op rfl (OpQ.cast (d' := .bool true) (q_int rfl rfl rfl) (congrArg D.bool ((int_dec (m := r.conv) rfl).trans (decide_eq_true hcc)))) ?_
        refine .op rfl (q_pick rfl rfl rfl rfl) ?_
        refine .op rfl (q_move rfl) ?_
        refine .op rfl (q_move rfl) ?_
        refine .op rfl (q_move rfl) ?_
        refine .op rfl (Zaf rfl rfl rfl rfl (by omega) (by omega) hne hd) ?_
        refine .op rfl (q_fldS rfl rfl rfl (by decide)) ?_
        refine .op rfl (q_load rfl rfl rfl rfl) ?_
        refine .op rfl (OpQ.cast (d' := .bool false) (q_int rfl rfl rfl) (congrArg D.bool ((int_dec (m := 0) rfl).trans (decide_eq_false hz)))) ?_
        refine .op rfl (q_move rfl) ?_
        refine .op rfl (q_move rfl) ?_
        refine .op rfl (q_move rfl) ?_
        refine .op rfl (Zaf rfl rfl rfl rfl (by omega) (by omega) hne hd) ?_
        refine .op rfl (q_fldS rfl rfl rfl (by decide)) ?_
        refine .op rfl (q_load rfl rfl rfl rfl) ?_
        refine .op rfl (OpQ.cast (d' := .bool true) (q_int rfl rfl rfl) (congrArg D.bool ((int_dec (m := 32) rfl).trans (decide_eq_true ht)))) ?_
        refine .op rfl (q_pick rfl rfl rfl rfl) ?_
        refine .op rfl (q_pick rfl rfl rfl rfl) ?_
        refine .op rfl (q_pick rfl rfl rfl rfl) ?_
        refine .nil (fun hG => ?_)
        refine AOps.nil ?_
        refine ARun.condT rfl ?_
        refine ARun.seq (ARun.region ?_); refine zzm ?_; refine zza ?_; refine zza ?_; refine AOps.nil ?_
        refine ARun.ret ?_
        refine ⟨_, _, _, .tmp rfl (.tmp rfl .nil), .cons (.same _) (.cons (.same _) .nil), rfl, ?_⟩
        rfl
      rw [decide_eq_false ht] at hb
      rw [schk_go g hb] at i2
      refine ARun.skip (ARun.seq (ARun.block (ARun.seq ?_)))
      refine ARun.drawnP 40 (fun _ => False) mixC rfl rfl (by kernel_rfl) (fun _ _ h => h.elim) ?_
      refine .op rfl (q_move rfl) ?_
      refine .op rfl (q_move rfl) ?_
      refine .op rfl (Zaf rfl rfl rfl rfl (by omega) (by omega) hne hd) ?_
      refine .op rfl (Zaj rfl rfl rfl rfl rfl) ?_
      refine .op rfl (q_call rfl rfl (hV)) ?_
      refine .op rfl (q_not rfl) ?_
      refine .op rfl (q_move rfl) ?_
      refine .op rfl (q_move rfl) ?_
      refine .op rfl (OpQ.cast (d' := .bool true) (q_int rfl rfl rfl) (congrArg D.bool (decide_eq_true (by omega)))) ?_
      refine .op rfl (q_move rfl) ?_
      refine .op rfl (q_move rfl) ?_
      refine .op rfl (q_move rfl) ?_
      refine .op rfl (Zaf rfl rfl rfl rfl (by omega) (by omega) hne hd) ?_
      refine .op rfl (q_fldS rfl rfl rfl (by decide)) ?_
      refine .op rfl (q_load rfl rfl rfl rfl) ?_
      refine .op rfl (q_move rfl) ?_
      refine .op rfl (q_move rfl) ?_
      refine .op rfl (OpQ.cast (d' := .int .i64 ((i - 1 : Nat) : Int)) (q_int rfl rfl rfl) (congrArg (D.int .i64) (by show IntKind.i64.wrap _ = _; rw [IntWalk.i64_in _ (by omega)]; omega))) ?_
      refine .op rfl (Zaf rfl rfl rfl rfl (by omega) (by omega) hne hdr) ?_
      refine .op rfl (q_fldS rfl rfl rfl (by decide)) ?_
      refine .op rfl (q_load rfl rfl rfl rfl) ?_
      refine .op rfl (OpQ.cast (d' := .bool true) (q_int rfl rfl rfl) (congrArg D.bool ((int_dec (m := r.conv) rfl).trans (decide_eq_true hcc)))) ?_
      refine .op rfl (q_pick rfl rfl rfl rfl) ?_
      refine .op rfl (q_move rfl) ?_
      refine .op rfl (q_move rfl) ?_
      refine .op rfl (q_move rfl) ?_
      refine .op rfl (Zaf rfl rfl rfl rfl (by omega) (by omega) hne hd) ?_
      refine .op rfl (q_fldS rfl rfl rfl (by decide)) ?_
      refine .op rfl (q_load rfl rfl rfl rfl) ?_
      refine .op rfl (OpQ.cast (d' := .bool false) (q_int rfl rfl rfl) (congrArg D.bool ((int_dec (m := 0) rfl).trans (decide_eq_false hz)))) ?_
      refine .op rfl (q_move rfl) ?_
      refine .op rfl (q_move rfl) ?_
      refine .op rfl (q_move rfl) ?_
      refine .op rfl (Zaf rfl rfl rfl rfl (by omega) (by omega) hne hd) ?_
      refine .op rfl (q_fldS rfl rfl rfl (by decide)) ?_
      refine .op rfl (q_load rfl rfl rfl rfl) ?_
      refine .op rfl (OpQ.cast (d' := .bool false) (q_int rfl rfl rfl) (congrArg D.bool ((int_dec (m := 32) rfl).trans (decide_eq_false ht)))) ?_
      refine .op rfl (q_pick rfl rfl rfl rfl) ?_
      refine .op rfl (q_pick rfl rfl rfl rfl) ?_
      refine .op rfl (q_pick rfl rfl rfl rfl) ?_
      refine .nil (fun hG => ?_)
      refine AOps.nil ?_
      refine ARun.condF rfl ?_
      refine ARun.skip (ARun.inBlock (ARun.region ?_)); refine zzm ?_
      refine y_op rfl (q_add rfl rfl (nadd1_i64 (by omega))) ?_
      refine zza ?_; refine AOps.nil ?_
      refine ARun.again (ih (i + 1) ?_ ?_) ?_ ?_
      · exact ⟨g, i2, hset v⟩
      · omega
      · (repeat' first | exact envLe_nil | apply envLe_any | apply envLe_same)
      rfl
    rw [decide_eq_false hcc, Bool.false_and] at hb
    rw [schk_go g hb] at i2
    refine ARun.skip (ARun.seq (ARun.block (ARun.seq ?_)))
    refine ARun.drawnP 40 (fun _ => False) mixC rfl rfl (by kernel_rfl) (fun _ _ h => h.elim) ?_
    refine .op rfl (q_move rfl) ?_
    refine .op rfl (q_move rfl) ?_
    refine .op rfl (Zaf rfl rfl rfl rfl (by omega) (by omega) hne hd) ?_
    refine .op rfl (Zaj rfl rfl rfl rfl rfl) ?_
    refine .op rfl (q_call rfl rfl (hV)) ?_
    refine .op rfl (q_not rfl) ?_
    refine .op rfl (q_move rfl) ?_
    refine .op rfl (q_move rfl) ?_
    refine .op rfl (OpQ.cast (d' := .bool true) (q_int rfl rfl rfl) (congrArg D.bool (decide_eq_true (by omega)))) ?_
    refine .op rfl (q_move rfl) ?_
    refine .op rfl (q_move rfl) ?_
    refine .op rfl (q_move rfl) ?_
    refine .op rfl (Zaf rfl rfl rfl rfl (by omega) (by omega) hne hd) ?_
    refine .op rfl (q_fldS rfl rfl rfl (by decide)) ?_
    refine .op rfl (q_load rfl rfl rfl rfl) ?_
    refine .op rfl (q_move rfl) ?_
    refine .op rfl (q_move rfl) ?_
    refine .op rfl (OpQ.cast (d' := .int .i64 ((i - 1 : Nat) : Int)) (q_int rfl rfl rfl) (congrArg (D.int .i64) (by show IntKind.i64.wrap _ = _; rw [IntWalk.i64_in _ (by omega)]; omega))) ?_
    refine .op rfl (Zaf rfl rfl rfl rfl (by omega) (by omega) hne hdr) ?_
    refine .op rfl (q_fldS rfl rfl rfl (by decide)) ?_
    refine .op rfl (q_load rfl rfl rfl rfl) ?_
    refine .op rfl (OpQ.cast (d' := .bool false) (q_int rfl rfl rfl) (congrArg D.bool ((int_dec (m := r.conv) rfl).trans (decide_eq_false hcc)))) ?_
    refine .op rfl (q_pick rfl rfl rfl rfl) ?_
    refine .op rfl (q_move rfl) ?_
    refine .skip rfl ?_
    refine .skip rfl ?_
    refine .skip rfl ?_
    refine .skip rfl ?_
    refine .skip rfl ?_
    refine .skip rfl ?_
    refine .skip rfl ?_
    refine .skip rfl ?_
    refine .skip rfl ?_
    refine .skip rfl ?_
    refine .skip rfl ?_
    refine .skip rfl ?_
    refine .skip rfl ?_
    refine .skip rfl ?_
    refine .op rfl (q_pick rfl rfl rfl rfl) ?_
    refine .op rfl (q_pick rfl rfl rfl rfl) ?_
    refine .nil (fun hG => ?_)
    refine AOps.nil ?_
    refine ARun.condF rfl ?_
    refine ARun.skip (ARun.inBlock (ARun.region ?_)); refine zzm ?_
    refine y_op rfl (q_add rfl rfl (nadd1_i64 (by omega))) ?_
    refine zza ?_; refine AOps.nil ?_
    refine ARun.again (ih (i + 1) ?_ ?_) ?_ ?_
    · exact ⟨g, i2, hset v⟩
    · omega
    · (repeat' first | exact envLe_nil | apply envLe_any | apply envLe_same)
    rfl
  obtain rfl : i = l.length := by omega
  rw [schk_end (by omega)] at i2
  have hga := ZdQ l hl (fun p hp => by
    obtain ⟨j, hj, e⟩ := List.getElem_of_mem hp
    have := i3 j hj
    rw [List.getD_eq_getElem?_getD, List.getElem?_eq_getElem hj] at this
    rw [← e]
    exact svalid_arg this)
  generalize sgr l = y at *
  refine ARun.exit rfl ?_
  refine ARun.seq (ARun.region ?_); refine zzm ?_
  refine zzc rfl rfl (hga) ?_
  refine zzm ?_; refine zze ?_; refine zze ?_; refine zza ?_; refine zza ?_; refine AOps.nil (ARun.seq (ARun.seq (ARun.region ?_))); refine zzm ?_; refine zzn ?_; refine AOps.nil ?_
  refine ARun.cond rfl (fun u => ?_) (fun u => ?_)
  · skip
    have u : y.2 = false := by simpa using u
    rw [u, cond_false] at i2
    subst i2
    refine ARun.seq (ARun.region ?_); refine zzm ?_; refine zzN ?_; refine zza ?_; refine zza ?_; refine AOps.nil ?_
    refine ARun.ret ?_
    refine ⟨_, _, _, .tmp rfl (.tmp rfl .nil), .cons (.same _) (.cons (.same _) .nil), rfl, ?_⟩
    rfl
  have u : y.2 = true := by simpa using u
  rw [u, cond_true] at i2
  subst i2
  refine ARun.skip (ARun.seq (ARun.region ?_)); refine zza ?_; refine zza ?_; refine AOps.nil ?_
  refine ARun.ret ?_
  refine ⟨_, _, _, .tmp rfl (.tmp rfl .nil), .cons (.same _) (.cons (.same _) .nil), rfl, ?_⟩
  rfl
end Go.V
set_option maxHeartbeats 8000000
set_option maxRecDepth 100000
set_option synthInstance.maxSize 100000
set_option synthInstance.maxHeartbeats 2000000
namespace Go.V
open Go.RowKit Go.Proofs
theorem schk_all {l : List Pc} {i : Nat} (h : (schk l i).1 = 0) : ∀ j, i ≤ j → j < l.length → svalid (l.getD j pcZ) = true := by
  rw [schk] at h
  split at h
  · rename_i g
    cases b : sbad l i
    · rw [b, cond_false] at h
      have ih := schk_all h
      intro j hj hl
      rcases Nat.eq_or_lt_of_le hj with e | e
      · subst e
        unfold sbad at b
        rw [Bool.or_eq_false_iff] at b
        simpa using b.1
      exact ih j e hl
    rw [b, cond_true] at h; cases h
  intro j hj hl; omega
termination_by l.length - i
theorem scheck_arg {l : List Pc} (h : (scheck l).1 = 0) : ∀ p ∈ l, p.arg ≤ 64 := by
  unfold scheck at h
  split at h
  · cases h
  intro p hp
  obtain ⟨j, hj, e⟩ := List.getElem_of_mem hp
  have := schk_all h j (Nat.zero_le _) hj
  rw [List.getD_eq_getElem?_getD, List.getElem?_eq_getElem hj] at this
  rw [← e]
  exact svalid_arg this
def sArgs (l : List Pc) : Int × Int := if (scheck l).1 = 0 then ((sgr l).1, 0) else (0, (scheck l).1)
def sOrd (l : List Pc) : Bool × Int := if (scheck l).1 = 0 then (sord l 0, 0) else (false, (scheck l).1)
theorem Zh4 (l : List Pc) (hw : ∀ p ∈ l, PcW p) (hl : l.length ≤ 1099511627776) : PC C ZhA [slP l] (fun o => o = .ret (.tup [.int .i64 (sArgs l).1, .int .i64 (sArgs l).2])) := by
  obtain ⟨R, hR⟩ : ∃ R, R = sArgs l := ⟨_, rfl⟩
  rw [← hR]
  unfold sArgs at hR
  have hC := ZcV l hw hl
  have hA := fun h => ZdQ l hl (scheck_arg h)
  generalize scheck l = c at *
  generalize sgr l = y at *
  refine PC.rn ZeO ZgZ Zg0 (rs := [.tmp 2, .tmp 3]) (by rw [Zg1]) ?_
  refine ARun.seq (ARun.region ?_); refine zza ?_; refine zza ?_; refine AOps.nil (ARun.seq (ARun.region ?_)); refine zzm ?_
  refine zzc rfl rfl (hC) ?_
  refine zzm ?_; refine zze ?_; refine zze ?_; refine zza ?_; refine zza ?_; refine AOps.nil (ARun.seq (ARun.seq (ARun.region ?_))); refine zzm ?_
  refine y_op rfl (OpQ.cast (d' := .bool (!decide (c.1 = 0))) (q_int rfl rfl rfl) (congrArg D.bool (by rw [Bool.eq_iff_iff]; simp))) ?_
  refine AOps.nil ?_
  refine ARun.cond rfl (fun u => ?_) (fun u => ?_)
  · skip
    have u : ¬ c.1 = 0 := by simpa using u
    rw [if_neg u] at hR
    subst hR
    refine ARun.seq (ARun.region ?_); refine zzm ?_; refine zza ?_; refine zza ?_; refine AOps.nil ?_
    refine ARun.ret ?_
    refine ⟨_, _, _, .tmp rfl (.tmp rfl .nil), .cons (.same _) (.cons (.same _) .nil), rfl, ?_⟩
    rfl
  have u : c.1 = 0 := by simpa using u
  rw [if_pos u] at hR
  subst hR
  refine ARun.skip (ARun.seq (ARun.region ?_)); refine zzm ?_
  refine zzc rfl rfl (hA u) ?_
  refine zzm ?_; refine zze ?_; refine zze ?_; refine zza ?_; refine zza ?_; refine AOps.nil (ARun.seq (ARun.region ?_)); refine zzm ?_; refine zza ?_; refine zza ?_; refine AOps.nil ?_
  refine ARun.ret ?_
  refine ⟨_, _, _, .tmp rfl (.tmp rfl .nil), .cons (.same _) (.cons (.same _) .nil), rfl, ?_⟩
  rfl
theorem ZgH (l : List Pc) (hw : ∀ p ∈ l, PcW p) (hl : l.length ≤ 1099511627776) : PC C Zf2 [slP l] (fun o => o = .ret (.tup [.bool (sOrd l).1, .int .i64 (sOrd l).2])) := by
  obtain ⟨R, hR⟩ : ∃ R, R = sOrd l := ⟨_, rfl⟩
  rw [← hR]
  unfold sOrd at hR
  have hC := ZcV l hw hl
  have hO := Zen l hl
  generalize scheck l = c at *
  generalize sord l 0 = y at *
  refine PC.rn Zc6 Zfk Zfl (rs := [.tmp 2, .tmp 3]) (by rw [Zfm]) ?_
  refine ARun.seq (ARun.region ?_); refine zza ?_; refine zza ?_; refine AOps.nil (ARun.seq (ARun.region ?_)); refine zzm ?_
  refine zzc rfl rfl (hC) ?_
  refine zzm ?_; refine zze ?_; refine zze ?_; refine zza ?_; refine zza ?_; refine AOps.nil (ARun.seq (ARun.seq (ARun.region ?_))); refine zzm ?_
  refine y_op rfl (OpQ.cast (d' := .bool (!decide (c.1 = 0))) (q_int rfl rfl rfl) (congrArg D.bool (by rw [Bool.eq_iff_iff]; simp))) ?_
  refine AOps.nil ?_
  refine ARun.cond rfl (fun u => ?_) (fun u => ?_)
  · skip
    have u : ¬ c.1 = 0 := by simpa using u
    rw [if_neg u] at hR
    subst hR
    refine ARun.seq (ARun.region ?_); refine zzm ?_; refine zza ?_; refine zza ?_; refine AOps.nil ?_
    refine ARun.ret ?_
    refine ⟨_, _, _, .tmp rfl (.tmp rfl .nil), .cons (.same _) (.cons (.same _) .nil), rfl, ?_⟩
    rfl
  have u : c.1 = 0 := by simpa using u
  rw [if_pos u] at hR
  subst hR
  refine ARun.skip (ARun.seq (ARun.region ?_)); refine zzm ?_
  refine zzc rfl rfl (hO) ?_
  refine zza ?_; refine zza ?_; refine AOps.nil ?_
  refine ARun.ret ?_
  refine ⟨_, _, _, .tmp rfl (.tmp rfl .nil), .cons (.same _) (.cons (.same _) .nil), rfl, ?_⟩
  rfl
end Go.V
set_option maxHeartbeats 8000000
set_option maxRecDepth 100000
set_option synthInstance.maxSize 100000
set_option synthInstance.maxHeartbeats 2000000
namespace Go.V
open Go.RowKit Go.Proofs
def lensN : List (List Nat) := [[], [104, 104], [104], [108], [108, 108], [106], [122], [116], [76], [72], [68], [68, 68]]
def lensA : List D := lensN.map fun r => D.str (bytesOf r)
theorem lensA_get : ∀ i, i < 12 → (lensA.drop (i * 1))[0]? = some (.str (bytesOf (lensN.getD i [])))
  | 0, _ | 1, _ | 2, _ | 3, _ | 4, _ | 5, _ | 6, _ | 7, _ | 8, _ | 9, _ | 10, _ | 11, _ => rfl
  | i + 12, h => by omega
theorem lensN_len : ∀ i, (lensN.getD i []).length ≤ 2
  | 0 | 1 | 2 | 3 | 4 | 5 | 6 | 7 | 8 | 9 | 10 | 11 => by decide
  | i + 12 => by show ([] : List Nat).length ≤ 2; decide
theorem ZgI : PC C Zgd [] (fun o => o = .ret (.sl 12 lensA)) := by
  refine PC.rn Zdb ZfD ZfE (rs := [.tmp 0]) (by rw [ZfF]) ?_
  refine ARun.seq (ARun.region ?_); refine zza ?_; refine AOps.nil (ARun.seq (ARun.region ?_))
  refine y_op rfl (OpQ.cast (Zba rfl rfl rfl rfl rfl rfl rfl rfl rfl rfl rfl (by decide) (by decide) rfl) (show _ = D.sl 12 lensA from rfl)) ?_
  refine zza ?_; refine AOps.nil ?_
  refine ARun.ret ?_
  refine ⟨_, _, _, .tmp rfl .nil, .cons (.same _) .nil, rfl, ?_⟩
  rfl
theorem dnum_len (n : Nat) : (dnum n).length ≤ n + 1 := by
  rw [dnum]; split
  · have := dnum_len (n / 10)
    rw [List.length_append]; simp only [List.length_cons, List.length_nil]; omega
  simp
termination_by n
decreasing_by omega
theorem setTx_len (S : Nat → Bool) : (setTx S).1.length ≤ 300 := by
  have hb : ∀ T, (setBody T).length ≤ 260 := fun T => by
    have := rtx_len T 1
    have h1 : ∀ b c, (pre1 b c).length ≤ 1 := fun b c => by cases b <;> simp [pre1]
    have a1 := h1 (T 93) 93
    have a2 := h1 (T 94) 94
    have a3 := h1 (T 45) 45
    unfold setBody
    simp only [List.length_append]; omega
  unfold setTx
  cases S 0
  · rw [cond_false]
    cases setNeg (ssize S 256) (S 94)
    · rw [cond_false]
      cases (decide (ssize S 256 = 2) && S 94) && S 45
      · have := hb S; show (setBody S).length ≤ 300; omega
      show (2 : Nat) ≤ 300; decide
    have := hb (sother S); show (setBody (sother S)).length + 1 ≤ 300; omega
  exact Nat.zero_le _
def pHead (p : Pc) (pos : Bool) : List Nat := if p.arg = 0 then [37, 42] else bif pos then (37 :: dnum p.arg.toNat) ++ [36] else [37]
def pWid (p : Pc) : List Nat := if p.wid > 0 then dnum p.wid.toNat else []
def pSet (p : Pc) : List Nat := if p.conv = 91 then (setTx p.set).1 ++ [93] else []
def sconv (p : Pc) (pos : Bool) : List Nat := pHead p pos ++ (pWid p ++ (lensN.getD p.len.toNat [] ++ ([p.conv] ++ pSet p)))
def sprn (p : Pc) (pos : Bool) : ByteArray := if p.conv = 32 then bytesOf [32] else if p.conv = 0 then p.lit else if p.conv = 37 then bytesOf [37, 37] else bytesOf (sconv p pos)
theorem ZgJ (p : Pc) (pos : Bool) (ha : 0 ≤ p.arg ∧ p.arg ≤ 64) (hwd : 0 ≤ p.wid ∧ p.wid ≤ 10000) (hln : 0 ≤ p.len ∧ p.len ≤ 11) (hc : p.conv < 256) : PC C Zf7 [pcA p, .bool pos] (fun o => o = .ret (.str (sprn p pos))) := by
  obtain ⟨R, hR⟩ : ∃ R, R = sprn p pos := ⟨_, rfl⟩
  rw [← hR]
  unfold sprn at hR
  have hna : PC C ZcS [.int .i64 p.arg] (fun o => o = .ret (.str (bytesOf (dnum p.arg.toNat)))) := by
    have := Zfd p.arg.toNat (by omega)
    rwa [Int.toNat_of_nonneg ha.1] at this
  have hnw : PC C ZcS [.int .i64 p.wid] (fun o => o = .ret (.str (bytesOf (dnum p.wid.toNat)))) := by
    have := Zfd p.wid.toNat (by omega)
    rwa [Int.toNat_of_nonneg hwd.1] at this
  have hda := dnum_len p.arg.toNat
  have hdw := dnum_len p.wid.toNat
  refine PC.rn Zc8 Zft Zfu (rs := [.tmp 4]) (by rw [Zfv]) ?_
  refine ARun.seq (ARun.region ?_)
  refine y_new rfl (n_box rfl rfl rfl) ?_
  refine zza ?_; refine AOps.nil (ARun.seq (ARun.seq (ARun.region ?_)))
  refine y_op rfl (q_fldP rfl rfl rfl (by decide)) ?_
  refine y_op rfl (Zaa rfl rfl rfl rfl rfl) ?_
  refine y_op rfl (OpQ.cast (q_int rfl rfl rfl) (congrArg D.bool (int_dec (m := 32) rfl))) ?_
  refine AOps.nil ?_
  refine ARun.ite rfl (fun a => ?_) (fun a => ?_)
  · skip
    rw [if_pos a] at hR
    subst hR
    refine ARun.seq (ARun.region ?_); refine zza ?_; refine AOps.nil ?_
    refine ARun.ret ?_
    refine ⟨_, _, _, .tmp rfl .nil, .cons (.same _) .nil, rfl, ?_⟩
    rfl
  rw [if_neg a] at hR
  refine ARun.skip (ARun.seq (ARun.seq (ARun.region ?_)))
  refine y_op rfl (q_fldP rfl rfl rfl (by decide)) ?_
  refine y_op rfl (Zaa rfl rfl rfl rfl rfl) ?_
  refine y_op rfl (OpQ.cast (q_int rfl rfl rfl) (congrArg D.bool (int_dec (m := 0) rfl))) ?_
  refine AOps.nil ?_
  refine ARun.ite rfl (fun b => ?_) (fun b => ?_)
  · skip
    rw [if_pos b] at hR
    subst hR
    refine ARun.seq (ARun.region ?_)
    refine y_op rfl (q_fldP rfl rfl rfl (by decide)) ?_
    refine y_op rfl (Zaa rfl rfl rfl rfl rfl) ?_
    refine zza ?_; refine AOps.nil ?_
    refine ARun.ret ?_
    refine ⟨_, _, _, .tmp rfl .nil, .cons (.same _) .nil, rfl, ?_⟩
    rfl
  rw [if_neg b] at hR
  refine ARun.skip (ARun.seq (ARun.seq (ARun.region ?_)))
  refine y_op rfl (q_fldP rfl rfl rfl (by decide)) ?_
  refine y_op rfl (Zaa rfl rfl rfl rfl rfl) ?_
  refine y_op rfl (OpQ.cast (q_int rfl rfl rfl) (congrArg D.bool (int_dec (m := 37) rfl))) ?_
  refine AOps.nil ?_
  refine ARun.ite rfl (fun d => ?_) (fun d => ?_)
  · skip
    rw [if_pos d] at hR
    subst hR
    refine ARun.seq (ARun.region ?_); refine zza ?_; refine AOps.nil ?_
    refine ARun.ret ?_
    refine ⟨_, _, _, .tmp rfl .nil, .cons (.same _) .nil, rfl, ?_⟩
    rfl
  rw [if_neg d] at hR
  unfold sconv at hR
  refine ARun.skip (ARun.seq (ARun.region ?_)); refine zza ?_; refine AOps.nil (ARun.seq (ARun.seq (ARun.region ?_)))
  refine y_op rfl (q_fldP rfl rfl rfl (by decide)) ?_
  refine y_op rfl (Zaa rfl rfl rfl rfl rfl) ?_
  refine zzi ?_; refine AOps.nil ?_
  refine ARun.join (S := List Nat) (fun P : List Nat => [(5, .str (bytesOf P)), (22, .any), (23, .any), (24, .any), (25, .any), (26, .any), (27, .any)]) (fun P : List Nat => P.length ≤ 100 ∧ R = bytesOf (P ++ (pWid p ++ (lensN.getD p.len.toNat [] ++ ([p.conv] ++ pSet p))))) (fun run => ?_) ?_
  · skip
    unfold pHead at hR
    refine ARun.ite rfl (fun e => ?_) (fun e => ?_)
    · skip
      rw [if_pos e] at hR
      refine ARun.region ?_; refine zza ?_; refine AOps.nil ?_
      exact ARun.ag (run ([37, 42]) (⟨by simp, hR⟩))
    rw [if_neg e] at hR
    refine ARun.seq (ARun.region ?_); refine zzm ?_; refine AOps.nil ?_
    refine ARun.cond rfl (fun f => ?_) (fun f => ?_)
    · skip
      rw [f, cond_true] at hR
      refine ARun.region ?_
      refine y_op rfl (q_fldP rfl rfl rfl (by decide)) ?_
      refine y_op rfl (Zaa rfl rfl rfl rfl rfl) ?_
      refine zzc rfl rfl (hna) ?_
      refine y_op rfl (OpQ.cast (d' := .str (bytesOf ([37] ++ dnum p.arg.toNat))) (Zal (s := bytesOf ([37])) (t := bytesOf (dnum p.arg.toNat)) rfl rfl (by rw [bytesOf_size, bytesOf_size]; (try simp only [List.length_append, List.length_cons, List.length_nil]); omega)) (congrArg D.str (bytesOf_append ([37]) (dnum p.arg.toNat)).symm)) ?_
      refine y_op rfl (OpQ.cast (d' := .str (bytesOf ([37] ++ dnum p.arg.toNat ++ [36]))) (Zal (s := bytesOf ([37] ++ dnum p.arg.toNat)) (t := bytesOf ([36])) rfl rfl (by rw [bytesOf_size, bytesOf_size]; (try simp only [List.length_append, List.length_cons, List.length_nil]); omega)) (congrArg D.str (bytesOf_append ([37] ++ dnum p.arg.toNat) ([36])).symm)) ?_
      refine zza ?_; refine AOps.nil ?_
      exact ARun.ag (run (([37] ++ dnum p.arg.toNat) ++ [36]) (⟨by simp only [List.length_append, List.length_cons, List.length_nil]; omega, hR⟩))
    rw [f, cond_false] at hR
    refine ARun.skip ?_
    exact ARun.ag (run ([37]) (⟨by simp, hR⟩))
  rintro P hj
  try dsimp only at hj ⊢
  obtain ⟨p1, p2⟩ := hj
  clear hR
  refine ARun.seq (ARun.seq (ARun.region ?_))
  refine y_op rfl (q_fldP rfl rfl rfl (by decide)) ?_
  refine y_op rfl (Zaa rfl rfl rfl rfl rfl) ?_
  refine zzi ?_; refine AOps.nil ?_
  refine ARun.join (S := List Nat) (fun P1 : List Nat => [(5, .str (bytesOf P1)), (31, .any), (32, .any), (33, .any), (34, .any), (35, .any)]) (fun P1 : List Nat => P1.length ≤ 20000 ∧ R = bytesOf (P1 ++ (lensN.getD p.len.toNat [] ++ ([p.conv] ++ pSet p)))) (fun run => ?_) ?_
  · skip
    unfold pWid at p2
    refine ARun.ite rfl (fun e => ?_) (fun e => ?_)
    · skip
      rw [if_pos e, ← List.append_assoc] at p2
      refine ARun.region ?_; refine zzm ?_
      refine y_op rfl (q_fldP rfl rfl rfl (by decide)) ?_
      refine y_op rfl (Zaa rfl rfl rfl rfl rfl) ?_
      refine zzc rfl rfl (hnw) ?_
      refine y_op rfl (OpQ.cast (d' := .str (bytesOf (P ++ dnum p.wid.toNat))) (Zal (s := bytesOf (P)) (t := bytesOf (dnum p.wid.toNat)) rfl rfl (by rw [bytesOf_size, bytesOf_size]; (try simp only [List.length_append, List.length_cons, List.length_nil]); omega)) (congrArg D.str (bytesOf_append (P) (dnum p.wid.toNat)).symm)) ?_
      refine zza ?_; refine AOps.nil ?_
      exact ARun.ag (run (P ++ dnum p.wid.toNat) (⟨by rw [List.length_append]; omega, p2⟩))
    rw [if_neg e] at p2
    refine ARun.skip ?_
    exact ARun.ag (run (P) (⟨by omega, p2⟩))
  rintro P1 hj
  try dsimp only at hj ⊢
  obtain ⟨r1, r2⟩ := hj
  clear p1 p2
  have hlg := lensA_get p.len.toNat (by omega)
  have hll := lensN_len p.len.toNat
  generalize lensN.getD p.len.toNat [] = LL at *
  refine ARun.seq ?_
  refine ARun.drawnP 12 (fun _ => False) mixC rfl rfl (by kernel_rfl) (fun _ _ h => h.elim) ?_
  refine .op rfl (q_move rfl) ?_
  refine .op rfl (q_call rfl rfl (ZgI)) ?_
  refine .op rfl (q_fldP rfl rfl rfl (by decide)) ?_
  refine .op rfl (Zaa rfl rfl rfl rfl rfl) ?_
  refine .op rfl (Zaf rfl rfl rfl rfl (by omega) (by omega) (by decide) rfl) ?_
  refine .op rfl (q_load rfl rfl rfl hlg) ?_
  refine .op rfl (OpQ.cast (d' := .str (bytesOf (P1 ++ LL))) (Zal (s := bytesOf (P1)) (t := bytesOf (LL)) rfl rfl (by rw [bytesOf_size, bytesOf_size]; (try simp only [List.length_append, List.length_cons, List.length_nil]); omega)) (congrArg D.str (bytesOf_append (P1) (LL)).symm)) ?_
  refine .op rfl (q_fldP rfl rfl rfl (by decide)) ?_
  refine .op rfl (Zaa rfl rfl rfl rfl rfl) ?_
  refine .op rfl (Zba rfl rfl rfl rfl rfl rfl rfl rfl rfl rfl rfl (by decide) (by decide) rfl) ?_
  refine .op rfl (ZcU (n := 1) (l := [p.conv]) rfl (by kernel_rfl) rfl rfl rfl rfl) ?_
  refine .op rfl (OpQ.cast (d' := .str (bytesOf (P1 ++ LL ++ [p.conv]))) (Zal (s := bytesOf (P1 ++ LL)) (t := bytesOf ([p.conv])) rfl rfl (by rw [bytesOf_size, bytesOf_size]; (try simp only [List.length_append, List.length_cons, List.length_nil]); omega)) (congrArg D.str (bytesOf_append (P1 ++ LL) ([p.conv])).symm)) ?_
  refine .nil (fun hG => ?_)
  refine zza ?_; refine AOps.nil (ARun.seq (ARun.seq (ARun.region ?_)))
  refine y_op rfl (q_fldP rfl rfl rfl (by decide)) ?_
  refine y_op rfl (Zaa rfl rfl rfl rfl rfl) ?_
  refine zzi ?_; refine AOps.nil ?_
  rw [← List.append_assoc, ← List.append_assoc] at r2
  obtain ⟨P2, hP2⟩ : ∃ P2, P2 = P1 ++ LL ++ [p.conv] := ⟨_, rfl⟩
  rw [← hP2] at r2
  rw [← hP2]
  have hl2 : P2.length ≤ 30000 := by rw [hP2]; simp only [List.length_append, List.length_cons, List.length_nil]; omega
  clear hP2 r1 hlg hll
  have hst := setTx_len p.set
  refine ARun.join (S := List Nat) (fun P3 : List Nat => [(5, .str (bytesOf P3)), (6, .any), (7, .any), (51, .any), (52, .any), (53, .any), (54, .any), (55, .any), (56, .any), (57, .any), (58, .any), (59, .any), (60, .any)]) (fun P3 : List Nat => R = bytesOf P3) (fun run => ?_) ?_
  · skip
    unfold pSet at r2
    refine ARun.ite rfl (fun e => ?_) (fun e => ?_)
    · skip
      rw [if_pos (show p.conv = 91 by omega)] at r2
      refine ARun.seq (ARun.region ?_)
      refine y_op rfl (q_fldP rfl rfl rfl (by decide)) ?_
      refine y_op rfl (Zab rfl rfl rfl rfl rfl rfl) ?_
      refine zzc rfl rfl (ZgF p.set) ?_
      refine zzm ?_; refine zze ?_; refine zze ?_; refine zza ?_; refine zza ?_; refine AOps.nil (ARun.region ?_); refine zzm ?_; refine zzm ?_
      refine y_op rfl (OpQ.cast (d' := .str (bytesOf (P2 ++ (setTx p.set).1))) (Zal (s := bytesOf (P2)) (t := bytesOf ((setTx p.set).1)) rfl rfl (by rw [bytesOf_size, bytesOf_size]; (try simp only [List.length_append, List.length_cons, List.length_nil]); omega)) (congrArg D.str (bytesOf_append (P2) ((setTx p.set).1)).symm)) ?_
      refine y_op rfl (OpQ.cast (d' := .str (bytesOf (P2 ++ (setTx p.set).1 ++ [93]))) (Zal (s := bytesOf (P2 ++ (setTx p.set).1)) (t := bytesOf ([93])) rfl rfl (by rw [bytesOf_size, bytesOf_size]; (try simp only [List.length_append, List.length_cons, List.length_nil]); omega)) (congrArg D.str (bytesOf_append (P2 ++ (setTx p.set).1) ([93])).symm)) ?_
      refine zza ?_; refine AOps.nil ?_
      exact ARun.ag (run ((P2 ++ (setTx p.set).1) ++ [93]) ((by rw [r2, List.append_assoc])))
    rw [if_neg (show ¬ p.conv = 91 by omega), List.append_nil] at r2
    refine ARun.skip ?_
    exact ARun.ag (run (P2) (r2))
  rintro P3 hj
  try dsimp only at hj ⊢
  subst hj
  refine ARun.seq (ARun.region ?_); refine zzm ?_; refine zza ?_; refine AOps.nil ?_
  refine ARun.ret ?_
  refine ⟨_, _, _, .tmp rfl .nil, .cons (.same _) .nil, rfl, ?_⟩
  rfl
end Go.V
