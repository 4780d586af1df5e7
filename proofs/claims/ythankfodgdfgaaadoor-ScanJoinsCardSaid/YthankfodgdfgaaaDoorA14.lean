/- A part of the proof: abstract values, rules for the steps of the program's form, and contracts of its functions, each proved; no condition. -/
import Derived.Test.YthankfodgdfgaaaDoorA13
import Derived.Laws.IdiomArrays
import Derived.Deep.Slices
import Derived.Maps.RangeWalk
import Derived.Test.YthankfodgdfgaaaDoorTie
import Derived.Test.YthankfodgdfgaaaDoorCards
import Derived.ProofKit
import Derived.OpenShut
import Derived.LaidMore
import Derived.Lay
import Derived.SevenTiedAt
import Derived.Carry
import Derived.Stop.Joined
import Derived.Lib.LaidIn
set_option linter.unusedVariables false
set_option linter.unusedSimpArgs false
set_option linter.unnecessarySimpa false
set_option maxHeartbeats 8000000
set_option maxRecDepth 100000
set_option synthInstance.maxSize 100000
set_option synthInstance.maxHeartbeats 2000000
namespace Go.V
open Go.RowKit Go.Proofs
theorem smost_le : ∀ (l : List Pc) (m : Int), (∀ p ∈ l, p.arg ≤ 64) → m ≤ 64 → smost l m ≤ 64 ∧ m ≤ smost l m
  | [], m, _, h => ⟨h, Int.le_refl m⟩
  | p :: l, m, ha, h => by
    rw [smost]
    have h1 := ha p (List.mem_cons_self ..)
    have := smost_le l (max m p.arg) (fun q hq => ha q (List.mem_cons_of_mem _ hq)) (by omega)
    omega
theorem pcs_at (init : List Pc) (pp : Pc) {r : Nat} (hr : r < 9) : (pcs (init ++ [pp]))[init.length * 9 + r]? = pp.cells[r]? := by
  rw [← pcs_app, List.getElem?_append_right (by rw [pcs_length]; omega), pcs_length, Nat.add_sub_cancel_left]
  show (pp.cells ++ [])[r]? = _
  rw [List.append_nil]
theorem pcs_setL (init : List Pc) (pp : Pc) (s : ByteArray) : (pcs (init ++ [pp])).set (init.length * 9 + 0) (.str s) = pcs (init ++ [⟨s, pp.arg, pp.wid, pp.len, pp.conv, pp.set⟩]) := by
  rw [← pcs_app, ← pcs_app, List.set_append_right _ _ (by rw [pcs_length]; omega), pcs_length, Nat.add_sub_cancel_left]
  rfl
theorem selO {c : Bool} {H2 : Heap} {id : Nat} {X Y : AObj} (h : H2[id]? = some (some Y)) : (bif c then H2.set id (some X) else H2)[id]? = some (some (bif c then X else Y)) := by
  cases c
  · exact h
  exact heap_set_get h
theorem shf_pos (k : Int) {p : Pc} (h : p.arg > 0) : shf k p = ⟨p.lit, p.arg + k, p.wid, p.len, p.conv, p.set⟩ := by unfold shf; rw [if_pos h]
theorem svalid_run {p : Pc} (h : svalid p = true) (hc : p.conv = 0 ∨ p.conv = 32) : p.arg = 0 := by
  have hs : spl p = true := by
    unfold spl
    rcases hc with e | e
    · rw [decide_eq_true e, Bool.or_true]; rfl
    rw [decide_eq_true e]; rfl
  exact (plain_print h hs false 0 false false).1
theorem jn_step {K : Int} {la lb : List Pc} {p : Pc} {t : List Pc} (h : lb = p :: t) (hm : ∀ init pp, la = init ++ [pp] → ¬ mrg pp p) : jn K la lb = (la ++ [shf K p]) ++ t.map (shf K) := by
  rcases List.eq_nil_or_concat la with e | ⟨init, pp, e⟩
  · rw [e, h]; rfl
  rw [List.concat_eq_append] at e
  have := hm init pp e
  rw [e, h, jn_snoc]
  show init ++ (if mrg pp p then _ else pp :: (p :: t).map (shf K)) = _
  rw [if_neg this]; simp
theorem jn_mrg {K : Int} {init : List Pc} {pp p : Pc} {t : List Pc} (hm : mrg pp p) : jn K (init ++ [pp]) (p :: t) = (init ++ [addL pp p]) ++ t.map (shf K) := by
  rw [jn_snoc]
  show init ++ (if mrg pp p then addL pp p :: t.map (shf K) else _) = _
  rw [if_pos hm]; simp
theorem jn_nil (K : Int) : ∀ la : List Pc, jn K la [] = la
  | [] => rfl
  | [p] => rfl
  | p :: q :: l => by show p :: jn K (q :: l) [] = _; rw [jn_nil K (q :: l)]
theorem ScanJoins_e1 (a b : ByteArray) {la : List Pc} {e o : Int} (ha : parseF a = (la, e, o)) (he : e ≠ 0) : PC Cg Zak [.str a, .str b] (fun o => o = .ret (.bool true)) := by
  have c1 := Zah a
  have c2 := Zah b
  rw [ha] at c1
  simp only at c1
  generalize parseF b = PB at c2
  obtain ⟨lb, eb, ob⟩ := PB
  simp only at c2
  refine PC.rn Zaj Zam Zan (rs := [.tmp 4]) (by rw [Zao]) ?_
  refine ARun.seq (ARun.region ?_); refine zza ?_; refine AOps.nil (ARun.seq (ARun.region ?_))
  refine zzc rfl rfl (Zco) ?_
  refine zza ?_; refine AOps.nil (ARun.seq (ARun.region ?_)); refine zzm ?_
  refine zzc rfl rfl (c1) ?_
  refine zzm ?_; refine zze ?_; refine zze ?_; refine zze ?_; refine zza ?_; refine zza ?_; refine zza ?_; refine AOps.nil (ARun.seq (ARun.region ?_)); refine zzm ?_
  refine zzc rfl rfl (c2) ?_
  refine zzm ?_; refine zze ?_; refine zze ?_; refine zze ?_; refine zza ?_; refine zza ?_; refine zza ?_; refine AOps.nil (ARun.seq (ARun.seq (ARun.region ?_))); refine zzm ?_
  refine y_op rfl (OpQ.cast (d' := .bool true) (q_int rfl rfl rfl) (congrArg D.bool (show (e != 0) = true from bne_iff_ne.2 he))) ?_
  refine zzm ?_; refine zzk ?_; refine zzk ?_; refine zzp ?_; refine zzm ?_; refine zzk ?_; refine zzk ?_; refine zzp ?_; refine zzm ?_; refine zzk ?_; refine zzk ?_; refine zzp ?_; refine AOps.nil ?_
  refine ARun.condT rfl ?_
  refine ARun.seq (ARun.region ?_); refine zzm ?_; refine zza ?_; refine AOps.nil ?_
  refine ARun.ret ?_
  refine ⟨_, _, _, .tmp rfl .nil, .cons (.same _) .nil, rfl, ?_⟩
  rfl
theorem ScanJoins_e2 (a b : ByteArray) {la lb : List Pc} {o1 e o : Int} (ha : parseF a = (la, 0, o1)) (hb : parseF b = (lb, e, o)) (he : e ≠ 0) : PC Cg Zak [.str a, .str b] (fun o => o = .ret (.bool true)) := by
  have c1 := Zah a
  have c2 := Zah b
  rw [ha] at c1
  rw [hb] at c2
  simp only at c1 c2
  refine PC.rn Zaj Zam Zan (rs := [.tmp 4]) (by rw [Zao]) ?_
  refine ARun.seq (ARun.region ?_); refine zza ?_; refine AOps.nil (ARun.seq (ARun.region ?_))
  refine zzc rfl rfl (Zco) ?_
  refine zza ?_; refine AOps.nil (ARun.seq (ARun.region ?_)); refine zzm ?_
  refine zzc rfl rfl (c1) ?_
  refine zzm ?_; refine zze ?_; refine zze ?_; refine zze ?_; refine zza ?_; refine zza ?_; refine zza ?_; refine AOps.nil (ARun.seq (ARun.region ?_)); refine zzm ?_
  refine zzc rfl rfl (c2) ?_
  refine zzm ?_; refine zze ?_; refine zze ?_; refine zze ?_; refine zza ?_; refine zza ?_; refine zza ?_; refine AOps.nil (ARun.seq (ARun.seq (ARun.region ?_))); refine zzm ?_; refine zzi ?_; refine zzm ?_; refine zzm ?_
  refine y_op rfl (OpQ.cast (d' := .bool true) (q_int rfl rfl rfl) (congrArg D.bool (show (e != 0) = true from bne_iff_ne.2 he))) ?_
  refine zzp ?_; refine zzm ?_; refine zzk ?_; refine zzk ?_; refine zzp ?_; refine zzm ?_; refine zzk ?_; refine zzk ?_; refine zzp ?_; refine AOps.nil ?_
  refine ARun.condT rfl ?_
  refine ARun.seq (ARun.region ?_); refine zzm ?_; refine zza ?_; refine AOps.nil ?_
  refine ARun.ret ?_
  refine ⟨_, _, _, .tmp rfl .nil, .cons (.same _) .nil, rfl, ?_⟩
  rfl
theorem ScanJoins_d1 (a b : ByteArray) {la lb : List Pc} {o1 o2 : Int} (ha : parseF a = (la, 0, o1)) (hb : parseF b = (lb, 0, o2)) (h36 : 36 ∈ sby a) : PC Cg Zak [.str a, .str b] (fun o => o = .ret (.bool true)) := by
  have c1 := Zah a
  have c2 := Zah b
  rw [ha] at c1
  rw [hb] at c2
  simp only at c1 c2
  have d1 := Zay a (parse_prs ha).1
  rw [decide_eq_true h36] at d1
  refine PC.rn Zaj Zam Zan (rs := [.tmp 4]) (by rw [Zao]) ?_
  refine ARun.seq (ARun.region ?_); refine zza ?_; refine AOps.nil (ARun.seq (ARun.region ?_))
  refine zzc rfl rfl (Zco) ?_
  refine zza ?_; refine AOps.nil (ARun.seq (ARun.region ?_)); refine zzm ?_
  refine zzc rfl rfl (c1) ?_
  refine zzm ?_; refine zze ?_; refine zze ?_; refine zze ?_; refine zza ?_; refine zza ?_; refine zza ?_; refine AOps.nil (ARun.seq (ARun.region ?_)); refine zzm ?_
  refine zzc rfl rfl (c2) ?_
  refine zzm ?_; refine zze ?_; refine zze ?_; refine zze ?_; refine zza ?_; refine zza ?_; refine zza ?_; refine AOps.nil (ARun.seq (ARun.seq (ARun.region ?_))); refine zzm ?_; refine zzi ?_; refine zzm ?_; refine zzm ?_; refine zzi ?_; refine zzp ?_; refine zzm ?_; refine zzm ?_
  refine zzc rfl rfl (d1) ?_
  refine zzp ?_; refine zzm ?_; refine zzk ?_; refine zzk ?_; refine zzp ?_; refine AOps.nil ?_
  refine ARun.condT rfl ?_
  refine ARun.seq (ARun.region ?_); refine zzm ?_; refine zza ?_; refine AOps.nil ?_
  refine ARun.ret ?_
  refine ⟨_, _, _, .tmp rfl .nil, .cons (.same _) .nil, rfl, ?_⟩
  rfl
theorem ScanJoins_d2 (a b : ByteArray) {la lb : List Pc} {o1 o2 : Int} (ha : parseF a = (la, 0, o1)) (hb : parseF b = (lb, 0, o2)) (h36 : 36 ∉ sby a) (h37 : 36 ∈ sby b) : PC Cg Zak [.str a, .str b] (fun o => o = .ret (.bool true)) := by
  have c1 := Zah a
  have c2 := Zah b
  rw [ha] at c1
  rw [hb] at c2
  simp only at c1 c2
  have d1 := Zay a (parse_prs ha).1
  rw [decide_eq_false h36] at d1
  have d2 := Zay b (parse_prs hb).1
  rw [decide_eq_true h37] at d2
  refine PC.rn Zaj Zam Zan (rs := [.tmp 4]) (by rw [Zao]) ?_
  refine ARun.seq (ARun.region ?_); refine zza ?_; refine AOps.nil (ARun.seq (ARun.region ?_))
  refine zzc rfl rfl (Zco) ?_
  refine zza ?_; refine AOps.nil (ARun.seq (ARun.region ?_)); refine zzm ?_
  refine zzc rfl rfl (c1) ?_
  refine zzm ?_; refine zze ?_; refine zze ?_; refine zze ?_; refine zza ?_; refine zza ?_; refine zza ?_; refine AOps.nil (ARun.seq (ARun.region ?_)); refine zzm ?_
  refine zzc rfl rfl (c2) ?_
  refine zzm ?_; refine zze ?_; refine zze ?_; refine zze ?_; refine zza ?_; refine zza ?_; refine zza ?_; refine AOps.nil (ARun.seq (ARun.seq (ARun.region ?_))); refine zzm ?_; refine zzi ?_; refine zzm ?_; refine zzm ?_; refine zzi ?_; refine zzp ?_; refine zzm ?_; refine zzm ?_
  refine zzc rfl rfl (d1) ?_
  refine zzp ?_; refine zzm ?_; refine zzm ?_
  refine zzc rfl rfl (d2) ?_
  refine zzp ?_; refine AOps.nil ?_
  refine ARun.condT rfl ?_
  refine ARun.seq (ARun.region ?_); refine zzm ?_; refine zza ?_; refine AOps.nil ?_
  refine ARun.ret ?_
  refine ⟨_, _, _, .tmp rfl .nil, .cons (.same _) .nil, rfl, ?_⟩
  rfl
theorem ScanJoins_lim (a b : ByteArray) {la lb : List Pc} {o1 o2 : Int} (ha : parseF a = (la, 0, o1)) (hb : parseF b = (lb, 0, o2)) (h36 : 36 ∉ sby a) (h37 : 36 ∉ sby b) {lj : List Pc} {oj : Int} (hp : parseF (a ++ b) = (lj, 2, oj)) : PC Cg Zak [.str a, .str b] (fun o => o = .ret (.bool true)) := by
  have c1 := Zah a
  have c2 := Zah b
  rw [ha] at c1
  rw [hb] at c2
  simp only at c1 c2
  have d1 := Zay a (parse_prs ha).1
  rw [decide_eq_false h36] at d1
  have d2 := Zay b (parse_prs hb).1
  rw [decide_eq_false h37] at d2
  have za := (parse_prs ha).1
  have zb := (parse_prs hb).1
  have c3 := Zah (a ++ b)
  rw [hp] at c3
  simp only at c3
  refine PC.rn Zaj Zam Zan (rs := [.tmp 4]) (by rw [Zao]) ?_
  refine ARun.seq (ARun.region ?_); refine zza ?_; refine AOps.nil (ARun.seq (ARun.region ?_))
  refine zzc rfl rfl (Zco) ?_
  refine zza ?_; refine AOps.nil (ARun.seq (ARun.region ?_)); refine zzm ?_
  refine zzc rfl rfl (c1) ?_
  refine zzm ?_; refine zze ?_; refine zze ?_; refine zze ?_; refine zza ?_; refine zza ?_; refine zza ?_; refine AOps.nil (ARun.seq (ARun.region ?_)); refine zzm ?_
  refine zzc rfl rfl (c2) ?_
  refine zzm ?_; refine zze ?_; refine zze ?_; refine zze ?_; refine zza ?_; refine zza ?_; refine zza ?_; refine AOps.nil (ARun.seq (ARun.seq (ARun.region ?_))); refine zzm ?_; refine zzi ?_; refine zzm ?_; refine zzm ?_; refine zzi ?_; refine zzp ?_; refine zzm ?_; refine zzm ?_
  refine zzc rfl rfl (d1) ?_
  refine zzp ?_; refine zzm ?_; refine zzm ?_
  refine zzc rfl rfl (d2) ?_
  refine zzp ?_; refine AOps.nil ?_
  refine ARun.condF rfl ?_
  refine ARun.skip (ARun.seq (ARun.region ?_)); refine zzm ?_; refine zzm ?_
  refine y_op rfl (ZaW rfl rfl (by omega)) ?_
  refine zzc rfl rfl (c3) ?_
  refine zzm ?_; refine zze ?_; refine zze ?_; refine zze ?_; refine zza ?_; refine zza ?_; refine zza ?_; refine AOps.nil (ARun.seq (ARun.seq (ARun.region ?_))); refine zzm ?_; refine zzi ?_; refine AOps.nil ?_
  refine ARun.condT rfl ?_
  refine ARun.seq (ARun.region ?_); refine zzm ?_; refine zzm ?_; refine zzm ?_; refine zzi ?_; refine zzp ?_; refine zza ?_; refine AOps.nil ?_
  refine ARun.ret ?_
  refine ⟨_, _, _, .tmp rfl .nil, .cons (.same _) .nil, rfl, ?_⟩
  rfl
theorem ScanJoins_ok (a b : ByteArray) {la lb : List Pc} {o1 o2 : Int} (ha : parseF a = (la, 0, o1)) (hb : parseF b = (lb, 0, o2)) (h36 : 36 ∉ sby a) (h37 : 36 ∉ sby b) (hp : parseF (a ++ b) = (jn (sgr la).1 la lb, 0, 0)) : PC Cg Zak [.str a, .str b] (fun o => o = .ret (.bool true)) := by
  have c1 := Zah a
  have c2 := Zah b
  rw [ha] at c1
  rw [hb] at c2
  simp only at c1 c2
  have d1 := Zay a (parse_prs ha).1
  rw [decide_eq_false h36] at d1
  have d2 := Zay b (parse_prs hb).1
  rw [decide_eq_false h37] at d2
  have za := (parse_prs ha).1
  have zb := (parse_prs hb).1
  have c3 := Zah (a ++ b)
  rw [hp] at c3
  simp only at c3
  obtain ⟨hga, hla5, hca⟩ := parse_good ha
  obtain ⟨hgb, hlb5, hcb⟩ := parse_good hb
  obtain ⟨hgj, hlj5, hcj⟩ := parse_good hp
  have hK : 0 ≤ (sgr la).1 ∧ (sgr la).1 ≤ 64 := by
    have := smost_le la 0 (fun p h => by have := (svalid_rng (hga p h).1).1; omega) (by decide)
    exact ⟨this.2, this.1⟩
  have c4 := Zfj la (fun p h => (hga p h).f) (by omega)
  rw [show sArgs la = ((sgr la).1, 0) by unfold sArgs; rw [if_pos hca]] at c4
  simp only at c4
  have c5 := PC.g (Zf5 (jn (sgr la).1 la lb) (jn (sgr la).1 la lb) (fun p h => (hgj p h).f) (fun p h => (hgj p h).f) (by omega))
  rw [ssame_rfl] at c5
  generalize (sgr la).1 = K at *
  refine PC.rn Zaj Zam Zan (rs := [.tmp 4]) (by rw [Zao]) ?_
  refine ARun.seq (ARun.region ?_); refine zza ?_; refine AOps.nil (ARun.seq (ARun.region ?_))
  refine zzc rfl rfl (Zco) ?_
  refine zza ?_; refine AOps.nil (ARun.seq (ARun.region ?_)); refine zzm ?_
  refine zzc rfl rfl (c1) ?_
  refine zzm ?_; refine zze ?_; refine zze ?_; refine zze ?_; refine zza ?_; refine zza ?_; refine zza ?_; refine AOps.nil (ARun.seq (ARun.region ?_)); refine zzm ?_
  refine zzc rfl rfl (c2) ?_
  refine zzm ?_; refine zze ?_; refine zze ?_; refine zze ?_; refine zza ?_; refine zza ?_; refine zza ?_; refine AOps.nil (ARun.seq (ARun.seq (ARun.region ?_))); refine zzm ?_; refine zzi ?_; refine zzm ?_; refine zzm ?_; refine zzi ?_; refine zzp ?_; refine zzm ?_; refine zzm ?_
  refine zzc rfl rfl (d1) ?_
  refine zzp ?_; refine zzm ?_; refine zzm ?_
  refine zzc rfl rfl (d2) ?_
  refine zzp ?_; refine AOps.nil ?_
  refine ARun.condF rfl ?_
  refine ARun.skip (ARun.seq (ARun.region ?_)); refine zzm ?_; refine zzm ?_
  refine y_op rfl (ZaW rfl rfl (by omega)) ?_
  refine zzc rfl rfl (c3) ?_
  refine zzm ?_; refine zze ?_; refine zze ?_; refine zze ?_; refine zza ?_; refine zza ?_; refine zza ?_; refine AOps.nil (ARun.seq (ARun.seq (ARun.region ?_))); refine zzm ?_; refine zzi ?_; refine AOps.nil ?_
  refine ARun.condF rfl ?_
  refine ARun.skip (ARun.seq (ARun.region ?_)); refine zzm ?_
  refine zzc rfl rfl (c4) ?_
  refine zzm ?_; refine zze ?_; refine zze ?_; refine zza ?_; refine zza ?_; refine AOps.nil (ARun.seq (ARun.seq (ARun.region ?_))); refine zzm ?_; refine zzi ?_; refine AOps.nil ?_
  refine ARun.condF rfl ?_
  refine ARun.skip (ARun.seq (ARun.region ?_))
  refine y_new rfl (Zfc rfl rfl rfl rfl rfl rfl rfl rfl rfl rfl rfl (by decide) (by decide)) ?_
  refine zzm ?_
  refine y_app3 (out := []) (news := la) rfl rfl ⟨0, rfl, rfl⟩ rfl rfl rfl (by decide) (by omega) (fun d0 H0 z0 => ?_)
  refine zza ?_; refine AOps.nil (ARun.seq (ARun.seq (ARun.region ?_))); refine zza ?_; refine AOps.nil (ARun.block ?_)
  refine ARun.loopI (S := Nat × List Pc × D × Heap) (fun σ : Nat × List Pc × D × Heap => [(19, .any), (20, .any), (74, .any), (75, .any), (76, .any), (77, .any), (78, .any), (79, .any), (80, .any), (81, .any), (82, .any), (83, .any), (84, .any), (85, .any), (86, .any), (87, .any), (88, .any), (89, .any), (90, .any), (91, .any), (92, .any), (93, .any), (94, .any), (95, .any), (96, .any), (97, .any), (98, .any), (99, .any), (100, .any), (101, .any), (102, .any), (103, .any), (104, .any), (105, .any), (106, .any), (107, .any), (108, .any), (109, .any), (110, .any), (111, .any), (112, .any), (113, .any), (114, .any), (115, .any), (116, .any), (117, .any), (118, .any), (119, .any), (120, .any), (121, .any), (122, .any), (123, .any), (124, .any), (125, .any), (126, .any), (127, .any), (128, .any), (129, .any), (130, .any), (131, .any), (132, .any), (133, .any), (134, .any), (135, .any), (136, .any), (17, σ.2.2.1), (18, .int .i64 (σ.1 : Int))]) (fun σ : Nat × List Pc × D × Heap => σ.2.2.2) (fun σ : Nat × List Pc × D × Heap => Out3 σ.2.2.2 σ.2.2.1 σ.2.1 ∧ σ.1 ≤ lb.length ∧ ((σ.1 = 0 ∧ la = σ.2.1) ∨ (0 < σ.1 ∧ jn K la lb = σ.2.1 ++ (lb.drop σ.1).map (shf K))) ∧ σ.2.1.length ≤ la.length + σ.1) (fun σ : Nat × List Pc × D × Heap => lb.length - σ.1) ((0, la, d0, H0)) ?_ ?_ ?_ ?_
  · exact ⟨z0, Nat.zero_le _, .inl ⟨rfl, rfl⟩, Nat.le_refl _⟩
  · (repeat' first | exact envLe_nil | apply envLe_any | apply envLe_same)
  · rfl
  rintro ⟨i, out, d, H⟩ hinv ih
  dsimp only at hinv ih ⊢
  obtain ⟨i1, i2, i3, i4⟩ := hinv
  refine ARun.seq (ARun.seq (ARun.region ?_)); refine zzm ?_; refine zzm ?_; refine zzN ?_; refine zzi ?_; refine AOps.nil ?_
  refine ARun.ite rfl (fun g => ?_) (fun g => ?_)
  · skip
    have g : i < lb.length := by omega
    have hdr := drop_getD lb i pcZ g
    have hd := pcs_drop lb i g
    have hne := pcs_ne g
    have hpm : lb.getD i pcZ ∈ lb := by rw [List.getD_eq_getElem?_getD, List.getElem?_eq_getElem g]; exact List.getElem_mem g
    have hrg := svalid_rng (hgb _ hpm).1
    generalize lb.getD i pcZ = p at *
    obtain ⟨id, hdd, hO⟩ := i1
    subst hdd
    have hid := (List.getElem?_eq_some_iff.1 hO).1
    refine ARun.skip (ARun.seq (ARun.block (ARun.seq (ARun.region ?_)))); refine zzm ?_; refine zzm ?_
    refine y_op rfl (Zav rfl rfl rfl rfl (by omega) (by omega) hne hd) ?_
    refine zzL ?_
    refine y_copy (p := p) (fun _ => rfl) (fun _ => rfl) (fun H1 a1 a2 => ?_)
    have a3 := (a1 id hid).trans hO
    have hA : id ≠ H.length := by omega
    generalize H.length = A at *
    skip
    refine AOps.nil (ARun.seq (ARun.seq (ARun.region ?_)))
    refine y_op rfl (q_fldP rfl rfl rfl (by decide)) ?_
    refine y_op rfl (Zaa rfl rfl rfl a2 rfl) ?_
    refine zzi ?_; refine AOps.nil ?_
    refine ARun.joinH (S := Heap) (fun H2 : Heap => [(87, .any), (88, .any), (89, .any), (90, .any), (91, .any)]) (fun H2 : Heap => H2) (fun H2 : Heap => H2[A]? = some (pcO (shf K p)) ∧ H2[id]? = some (some ⟨pcs out, Zab, 9, true, none⟩)) (fun run => ?_) ?_
    · skip
      refine ARun.ite rfl (fun e => ?_) (fun e => ?_)
      · skip
        refine ARun.region ?_
        refine y_op rfl (q_fldP rfl rfl rfl (by decide)) ?_
        refine y_op rfl (Zaa rfl rfl rfl a2 rfl) ?_
        refine zzm ?_
        refine y_op rfl (OpQ.cast (d' := .int .i64 (p.arg + K)) (q_int rfl rfl rfl) (congrArg (D.int .i64) (by show IntKind.i64.wrap _ = _; rw [IntWalk.i64_in _ (by omega)]))) ?_
        refine y_op rfl (q_fldP rfl rfl rfl (by decide)) ?_
        refine y_new rfl (Zac rfl rfl rfl rfl a2 rfl (show 0 + 1 < 9 by decide) rfl) ?_
        refine AOps.nil ?_
        exact ARun.ag (run (H1.set A (pcO ⟨p.lit, p.arg + K, p.wid, p.len, p.conv, p.set⟩)) (⟨by rw [shf_pos K e]; exact heap_set_get a2, by rw [List.getElem?_set_ne (fun h => hA h.symm)]; exact a3⟩))
      refine ARun.skip ?_
      exact ARun.ag (run (H1) (⟨by rw [shf_0 K (by omega)]; exact a2, a3⟩))
    rintro H2 hj
    try dsimp only at hj ⊢
    clear a1 a2 a3
    obtain ⟨b1, b2⟩ := hj
    refine ARun.seq (ARun.region ?_); refine zzm ?_
    refine y_op rfl (Zen rfl b2 rfl) ?_
    by_cases hi0 : i = 0
    · skip
      subst hi0
      have hla : la = out := i3.elim (fun h => h.2) (fun h => absurd h.1 (Nat.lt_irrefl 0))
      rw [List.drop_zero] at hdr
      rcases List.eq_nil_or_concat out with hout | ⟨init, pp, hout⟩
      · skip
        subst hout
        have hJ : jn K la lb = ([] ++ [shf K p]) ++ (lb.drop (0 + 1)).map (shf K) := by
          rw [hla, jn_step hdr (fun init pp e => by cases init <;> cases e)]
        refine y_op rfl (OpQ.cast (d' := .int .i64 (-1)) (q_int rfl rfl rfl) (congrArg (D.int .i64) (by show IntKind.i64.wrap _ = _; rw [IntWalk.i64_in _ (by decide)]; rfl))) ?_
        refine zza ?_; refine AOps.nil (ARun.seq (ARun.seq ?_))
        refine ARun.drawnP 26 (fun _ => False) mixC rfl rfl (by kernel_rfl) (fun _ _ h => h.elim) ?_
        refine .op rfl (q_move rfl) ?_
        refine .op rfl (OpQ.cast (d' := .bool true) (q_int rfl rfl rfl) rfl) ?_
        refine .op rfl (q_move rfl) ?_
        refine .op rfl (q_move rfl) ?_
        refine .op rfl (OpQ.cast (d' := .bool false) (q_int rfl rfl rfl) rfl) ?_
        refine .op rfl (q_pick rfl rfl rfl rfl) ?_
        refine .op rfl (q_move rfl) ?_
        refine .skip rfl ?_
        refine .skip rfl ?_
        refine .skip rfl ?_
        refine .skip rfl ?_
        refine .skip rfl ?_
        refine .skip rfl ?_
        refine .skip rfl ?_
        refine .skip rfl ?_
        refine .op rfl (q_pick rfl rfl rfl rfl) ?_
        refine .op rfl (q_move rfl) ?_
        refine .skip rfl ?_
        refine .skip rfl ?_
        refine .skip rfl ?_
        refine .skip rfl ?_
        refine .skip rfl ?_
        refine .skip rfl ?_
        refine .skip rfl ?_
        refine .skip rfl ?_
        refine .op rfl (q_pick rfl rfl rfl rfl) ?_
        refine .nil (fun hG => ?_)
        refine AOps.nil ?_
        refine ARun.condF rfl ?_
        refine ARun.skip (ARun.region ?_); refine zzm ?_
        refine y_op rfl (Zaf rfl rfl rfl b1 rfl rfl) ?_
        refine y_op rfl (ZbH rfl rfl rfl rfl rfl rfl rfl rfl rfl rfl rfl (by decide) (by decide) rfl) ?_
        refine y_app3 (news := [shf K p]) rfl rfl ⟨id, rfl, b2⟩ rfl rfl rfl (by omega) (by show 1 ≤ 2000; decide) (fun d2 H3 z1 => ?_)
        refine zza ?_; refine AOps.nil (ARun.inBlock (ARun.region ?_)); refine zzm ?_
        refine y_op rfl (q_add rfl rfl (nadd1_i64 (by omega))) ?_
        refine zza ?_; refine AOps.nil ?_
        refine ARun.again (ih ((0 + 1, [] ++ [shf K p], d2, H3)) ?_ ?_) ?_ ?_
        · exact ⟨z1, g, .inr ⟨Nat.succ_pos _, hJ⟩, by rw [List.length_append]; show _ + 1 ≤ _; omega⟩
        · (dsimp only; omega)
        · (repeat' first | exact envLe_nil | apply envLe_any | apply envLe_same)
        rfl
      rw [List.concat_eq_append] at hout
      subst hout
      have hqm : pp ∈ la := by rw [hla]; exact List.mem_append_right _ (List.mem_singleton.2 rfl)
      have hil : init.length ≤ 600 := by rw [List.length_append] at i4; simp only [List.length_singleton] at i4; omega
      have hil2 : (init ++ [pp]).length ≤ 2000 := by rw [List.length_append]; simp only [List.length_singleton]; omega
      by_cases hcv : p.conv = pp.conv
      · skip
        by_cases h0 : p.conv = 0
        · skip
          have hm : mrg pp p := ⟨hcv, by omega⟩
          have har := svalid_run (hgb p hpm).1 (by omega)
          have hsh := shf_0 K har
          rw [hsh] at b1
          have hJ : jn K la lb = (init ++ [addL pp p]) ++ (lb.drop (0 + 1)).map (shf K) := by
            have hjm := jn_mrg (K := K) (init := init) (t := lb.drop (0 + 1)) hm
            rw [← hdr] at hjm
            rw [hla]; exact hjm
          have zp := (hgb p hpm).2.2
          have zq := (hga pp hqm).2.2
          refine y_op rfl (OpQ.cast (d' := .int .i64 (init.length : Int)) (q_int rfl rfl rfl) (congrArg (D.int .i64) (by show IntKind.i64.wrap _ = _; rw [List.length_append]; show IntKind.i64.wrap (((init.length + 1 : Nat) : Int) - 1) = _; rw [IntWalk.i64_in _ (by omega)]; omega))) ?_
          refine zza ?_; refine AOps.nil (ARun.seq (ARun.seq ?_))
          refine ARun.drawnP 26 (fun _ => False) mixC rfl rfl (by kernel_rfl) (fun _ _ h => h.elim) ?_
          refine .op rfl (q_move rfl) ?_
          refine .op rfl (OpQ.cast (d' := .bool true) (q_int rfl rfl rfl) rfl) ?_
          refine .op rfl (q_move rfl) ?_
          refine .op rfl (q_move rfl) ?_
          refine .op rfl (OpQ.cast (d' := .bool true) (q_int rfl rfl rfl) (congrArg D.bool (decide_eq_true (by omega)))) ?_
          refine .op rfl (q_pick rfl rfl rfl rfl) ?_
          refine .op rfl (q_move rfl) ?_
          refine .op rfl (q_fldP rfl rfl rfl (by decide)) ?_
          refine .op rfl (Zaa rfl rfl rfl b1 rfl) ?_
          refine .op rfl (q_move rfl) ?_
          refine .op rfl (q_move rfl) ?_
          refine .op rfl (ZbG rfl rfl rfl rfl b2 (by omega) (by rw [List.length_append]; show (init.length : Int) < ((init.length + 1 : Nat) : Int); omega) (show ((init.length : Nat) : Int).toNat * 9 = init.length * 9 by rw [Int.toNat_natCast])) ?_
          refine .op rfl (q_fldP rfl rfl rfl (by decide)) ?_
          refine .op rfl (Zaa rfl rfl rfl b2 (pcs_at init pp (r := 4) (by decide))) ?_
          refine .op rfl (OpQ.cast (d' := .bool true) (q_int rfl rfl rfl) (congrArg D.bool (decide_eq_true (by omega)))) ?_
          refine .op rfl (q_pick rfl rfl rfl rfl) ?_
          refine .op rfl (q_move rfl) ?_
          refine .op rfl (q_fldP rfl rfl rfl (by decide)) ?_
          refine .op rfl (Zaa rfl rfl rfl b1 rfl) ?_
          refine .op rfl (OpQ.cast (d' := .bool true) (q_int rfl rfl rfl) (congrArg D.bool (decide_eq_true (by omega)))) ?_
          refine .op rfl (q_move rfl) ?_
          refine .skip rfl ?_
          refine .skip rfl ?_
          refine .skip rfl ?_
          refine .op rfl (q_pick rfl rfl rfl rfl) ?_
          refine .op rfl (q_pick rfl rfl rfl rfl) ?_
          refine .nil (fun hG => ?_)
          refine AOps.nil ?_
          refine ARun.condT rfl ?_
          refine ARun.seq ?_
          refine ARun.drawnG (n := 13) (fun S : Nat → Bool => bif S 12 then H2.set id (some ⟨pcs (init ++ [addL pp p]), Zab, 9, true, none⟩) else H2) [] (fun _ => False) (sk := []) mixC rfl rfl (by kernel_rfl) rfl (by kernel_rfl) rfl (fun _ _ _ h => h.elim) ?_
          refine DChG.op rfl (fun _ => q_move rfl) (fun _ => rfl) rfl rfl ?_
          refine DChG.op rfl (fun _ => q_move rfl) (fun _ => rfl) rfl rfl ?_
          refine DChG.op rfl (fun _ => q_move rfl) (fun _ => rfl) rfl rfl ?_
          refine DChG.op rfl (fun _ => q_move rfl) (fun _ => rfl) rfl rfl ?_
          refine DChG.op rfl (fun _ => ZbG rfl rfl rfl rfl (selO b2) (by omega) (by rw [List.length_append]; show (init.length : Int) < ((init.length + 1 : Nat) : Int); omega) (show ((init.length : Nat) : Int).toNat * 9 = init.length * 9 by rw [Int.toNat_natCast])) (fun _ => rfl) rfl rfl ?_
          refine DChG.op rfl (fun _ => q_fldP rfl rfl rfl (by decide)) (fun _ => rfl) rfl rfl ?_
          refine DChG.opC rfl (fun S hn hd hc => OpQ.pre (H1 := bif false then H2.set id (some ⟨pcs (init ++ [addL pp p]), Zab, 9, true, none⟩) else H2) (by simp only [(clF hc hn (by kernel_rfl) : S 12 = false)]) (Zaa rfl rfl rfl b2 (pcs_at init pp (r := 0) (by decide)))) (fun _ => rfl) rfl rfl ?_
          refine DChG.op rfl (fun _ => q_fldP rfl rfl rfl (by decide)) (fun _ => rfl) rfl rfl ?_
          refine DChG.opC rfl (fun S hn hd hc => OpQ.pre (H1 := bif false then H2.set id (some ⟨pcs (init ++ [addL pp p]), Zab, 9, true, none⟩) else H2) (by simp only [(clF hc hn (by kernel_rfl) : S 12 = false)]) (Zaa rfl rfl rfl b1 rfl)) (fun _ => rfl) rfl rfl ?_
          refine DChG.op rfl (fun _ => ZaW rfl rfl (by omega)) (fun _ => rfl) rfl rfl ?_
          refine DChG.op rfl (fun _ => ZbG rfl rfl rfl rfl (selO b2) (by omega) (by rw [List.length_append]; show (init.length : Int) < ((init.length + 1 : Nat) : Int); omega) (show ((init.length : Nat) : Int).toNat * 9 = init.length * 9 by rw [Int.toNat_natCast])) (fun _ => rfl) rfl rfl ?_
          refine DChG.op rfl (fun _ => q_fldP rfl rfl rfl (by decide)) (fun _ => rfl) rfl rfl ?_
          refine DChG.stC rfl (fun S hn hd hc => OpN.both (H1 := bif false then H2.set id (some ⟨pcs (init ++ [addL pp p]), Zab, 9, true, none⟩) else H2) (H3 := bif true then H2.set id (some ⟨pcs (init ++ [addL pp p]), Zab, 9, true, none⟩) else H2) (by simp only [hn]) rfl (Zac rfl rfl rfl rfl b2 rfl (by rw [pcs_length, List.length_append]; show init.length * 9 + 0 < (init.length + 1) * 9; omega) (pcs_setL init pp _))) rfl rfl ?_
          refine .nil (fun hG => AOps.fin (n := List.length (H2.set id (some ⟨pcs (init ++ [addL pp p]), Zab, 9, true, none⟩))) (as' := []) (H' := H2.set id (some ⟨pcs (init ++ [addL pp p]), Zab, 9, true, none⟩)) rfl rfl (List.append_nil _) ?_)
          refine AOps.nil ?_
          refine ARun.exit rfl ?_
          refine ARun.region ?_; refine zzm ?_
          refine y_op rfl (q_add rfl rfl (nadd1_i64 (by omega))) ?_
          refine zza ?_; refine AOps.nil ?_
          refine ARun.again (ih ((0 + 1, init ++ [addL pp p], .row id (init ++ [pp]).length, H2.set id (some ⟨pcs (init ++ [addL pp p]), Zab, 9, true, none⟩))) ?_ ?_) ?_ ?_
          · exact ⟨⟨id, by rw [List.length_append, List.length_append]; rfl, heap_set_get b2⟩, g, .inr ⟨Nat.succ_pos _, hJ⟩, by rw [List.length_append] at i4 ⊢; show _ + 1 ≤ _; simp only [List.length_singleton] at i4; omega⟩
          · (dsimp only; omega)
          · (repeat' first | exact envLe_nil | apply envLe_any | apply envLe_same)
          rfl
        by_cases h32 : p.conv = 32
        · skip
          have hm : mrg pp p := ⟨hcv, by omega⟩
          have har := svalid_run (hgb p hpm).1 (by omega)
          have hsh := shf_0 K har
          rw [hsh] at b1
          have hJ : jn K la lb = (init ++ [addL pp p]) ++ (lb.drop (0 + 1)).map (shf K) := by
            have hjm := jn_mrg (K := K) (init := init) (t := lb.drop (0 + 1)) hm
            rw [← hdr] at hjm
            rw [hla]; exact hjm
          have zp := (hgb p hpm).2.2
          have zq := (hga pp hqm).2.2
          refine y_op rfl (OpQ.cast (d' := .int .i64 (init.length : Int)) (q_int rfl rfl rfl) (congrArg (D.int .i64) (by show IntKind.i64.wrap _ = _; rw [List.length_append]; show IntKind.i64.wrap (((init.length + 1 : Nat) : Int) - 1) = _; rw [IntWalk.i64_in _ (by omega)]; omega))) ?_
          refine zza ?_; refine AOps.nil (ARun.seq (ARun.seq ?_))
          refine ARun.drawnP 26 (fun _ => False) mixC rfl rfl (by kernel_rfl) (fun _ _ h => h.elim) ?_
          refine .op rfl (q_move rfl) ?_
          refine .op rfl (OpQ.cast (d' := .bool true) (q_int rfl rfl rfl) rfl) ?_
          refine .op rfl (q_move rfl) ?_
          refine .op rfl (q_move rfl) ?_
          refine .op rfl (OpQ.cast (d' := .bool true) (q_int rfl rfl rfl) (congrArg D.bool (decide_eq_true (by omega)))) ?_
          refine .op rfl (q_pick rfl rfl rfl rfl) ?_
          refine .op rfl (q_move rfl) ?_
          refine .op rfl (q_fldP rfl rfl rfl (by decide)) ?_
          refine .op rfl (Zaa rfl rfl rfl b1 rfl) ?_
          refine .op rfl (q_move rfl) ?_
          refine .op rfl (q_move rfl) ?_
          refine .op rfl (ZbG rfl rfl rfl rfl b2 (by omega) (by rw [List.length_append]; show (init.length : Int) < ((init.length + 1 : Nat) : Int); omega) (show ((init.length : Nat) : Int).toNat * 9 = init.length * 9 by rw [Int.toNat_natCast])) ?_
          refine .op rfl (q_fldP rfl rfl rfl (by decide)) ?_
          refine .op rfl (Zaa rfl rfl rfl b2 (pcs_at init pp (r := 4) (by decide))) ?_
          refine .op rfl (OpQ.cast (d' := .bool true) (q_int rfl rfl rfl) (congrArg D.bool (decide_eq_true (by omega)))) ?_
          refine .op rfl (q_pick rfl rfl rfl rfl) ?_
          refine .op rfl (q_move rfl) ?_
          refine .op rfl (q_fldP rfl rfl rfl (by decide)) ?_
          refine .op rfl (Zaa rfl rfl rfl b1 rfl) ?_
          refine .op rfl (OpQ.cast (d' := .bool false) (q_int rfl rfl rfl) (congrArg D.bool (decide_eq_false (by omega)))) ?_
          refine .op rfl (q_move rfl) ?_
          refine .op rfl (q_fldP rfl rfl rfl (by decide)) ?_
          refine .op rfl (Zaa rfl rfl rfl b1 rfl) ?_
          refine .op rfl (OpQ.cast (d' := .bool true) (q_int rfl rfl rfl) (congrArg D.bool (decide_eq_true (by omega)))) ?_
          refine .op rfl (q_pick rfl rfl rfl rfl) ?_
          refine .op rfl (q_pick rfl rfl rfl rfl) ?_
          refine .nil (fun hG => ?_)
          refine AOps.nil ?_
          refine ARun.condT rfl ?_
          refine ARun.seq ?_
          refine ARun.drawnG (n := 13) (fun S : Nat → Bool => bif S 12 then H2.set id (some ⟨pcs (init ++ [addL pp p]), Zab, 9, true, none⟩) else H2) [] (fun _ => False) (sk := []) mixC rfl rfl (by kernel_rfl) rfl (by kernel_rfl) rfl (fun _ _ _ h => h.elim) ?_
          refine DChG.op rfl (fun _ => q_move rfl) (fun _ => rfl) rfl rfl ?_
          refine DChG.op rfl (fun _ => q_move rfl) (fun _ => rfl) rfl rfl ?_
          refine DChG.op rfl (fun _ => q_move rfl) (fun _ => rfl) rfl rfl ?_
          refine DChG.op rfl (fun _ => q_move rfl) (fun _ => rfl) rfl rfl ?_
          refine DChG.op rfl (fun _ => ZbG rfl rfl rfl rfl (selO b2) (by omega) (by rw [List.length_append]; show (init.length : Int) < ((init.length + 1 : Nat) : Int); omega) (show ((init.length : Nat) : Int).toNat * 9 = init.length * 9 by rw [Int.toNat_natCast])) (fun _ => rfl) rfl rfl ?_
          refine DChG.op rfl (fun _ => q_fldP rfl rfl rfl (by decide)) (fun _ => rfl) rfl rfl ?_
          refine DChG.opC rfl (fun S hn hd hc => OpQ.pre (H1 := bif false then H2.set id (some ⟨pcs (init ++ [addL pp p]), Zab, 9, true, none⟩) else H2) (by simp only [(clF hc hn (by kernel_rfl) : S 12 = false)]) (Zaa rfl rfl rfl b2 (pcs_at init pp (r := 0) (by decide)))) (fun _ => rfl) rfl rfl ?_
          refine DChG.op rfl (fun _ => q_fldP rfl rfl rfl (by decide)) (fun _ => rfl) rfl rfl ?_
          refine DChG.opC rfl (fun S hn hd hc => OpQ.pre (H1 := bif false then H2.set id (some ⟨pcs (init ++ [addL pp p]), Zab, 9, true, none⟩) else H2) (by simp only [(clF hc hn (by kernel_rfl) : S 12 = false)]) (Zaa rfl rfl rfl b1 rfl)) (fun _ => rfl) rfl rfl ?_
          refine DChG.op rfl (fun _ => ZaW rfl rfl (by omega)) (fun _ => rfl) rfl rfl ?_
          refine DChG.op rfl (fun _ => ZbG rfl rfl rfl rfl (selO b2) (by omega) (by rw [List.length_append]; show (init.length : Int) < ((init.length + 1 : Nat) : Int); omega) (show ((init.length : Nat) : Int).toNat * 9 = init.length * 9 by rw [Int.toNat_natCast])) (fun _ => rfl) rfl rfl ?_
          refine DChG.op rfl (fun _ => q_fldP rfl rfl rfl (by decide)) (fun _ => rfl) rfl rfl ?_
          refine DChG.stC rfl (fun S hn hd hc => OpN.both (H1 := bif false then H2.set id (some ⟨pcs (init ++ [addL pp p]), Zab, 9, true, none⟩) else H2) (H3 := bif true then H2.set id (some ⟨pcs (init ++ [addL pp p]), Zab, 9, true, none⟩) else H2) (by simp only [hn]) rfl (Zac rfl rfl rfl rfl b2 rfl (by rw [pcs_length, List.length_append]; show init.length * 9 + 0 < (init.length + 1) * 9; omega) (pcs_setL init pp _))) rfl rfl ?_
          refine .nil (fun hG => AOps.fin (n := List.length (H2.set id (some ⟨pcs (init ++ [addL pp p]), Zab, 9, true, none⟩))) (as' := []) (H' := H2.set id (some ⟨pcs (init ++ [addL pp p]), Zab, 9, true, none⟩)) rfl rfl (List.append_nil _) ?_)
          refine AOps.nil ?_
          refine ARun.exit rfl ?_
          refine ARun.region ?_; refine zzm ?_
          refine y_op rfl (q_add rfl rfl (nadd1_i64 (by omega))) ?_
          refine zza ?_; refine AOps.nil ?_
          refine ARun.again (ih ((0 + 1, init ++ [addL pp p], .row id (init ++ [pp]).length, H2.set id (some ⟨pcs (init ++ [addL pp p]), Zab, 9, true, none⟩))) ?_ ?_) ?_ ?_
          · exact ⟨⟨id, by rw [List.length_append, List.length_append]; rfl, heap_set_get b2⟩, g, .inr ⟨Nat.succ_pos _, hJ⟩, by rw [List.length_append] at i4 ⊢; show _ + 1 ≤ _; simp only [List.length_singleton] at i4; omega⟩
          · (dsimp only; omega)
          · (repeat' first | exact envLe_nil | apply envLe_any | apply envLe_same)
          rfl
        have hJ : jn K la lb = ((init ++ [pp]) ++ [shf K p]) ++ (lb.drop (0 + 1)).map (shf K) := by
          rw [hla, jn_step hdr (fun i0 p0 e => by
            have e2 := List.append_inj' e rfl
            have e3 : pp = p0 := by injection e2.2
            rw [← e3]; exact fun hh => hh.2.elim h0 h32)]
        refine y_op rfl (OpQ.cast (d' := .int .i64 (init.length : Int)) (q_int rfl rfl rfl) (congrArg (D.int .i64) (by show IntKind.i64.wrap _ = _; rw [List.length_append]; show IntKind.i64.wrap (((init.length + 1 : Nat) : Int) - 1) = _; rw [IntWalk.i64_in _ (by omega)]; omega))) ?_
        refine zza ?_; refine AOps.nil (ARun.seq (ARun.seq ?_))
        refine ARun.drawnP 26 (fun _ => False) mixC rfl rfl (by kernel_rfl) (fun _ _ h => h.elim) ?_
        refine .op rfl (q_move rfl) ?_
        refine .op rfl (OpQ.cast (d' := .bool true) (q_int rfl rfl rfl) rfl) ?_
        refine .op rfl (q_move rfl) ?_
        refine .op rfl (q_move rfl) ?_
        refine .op rfl (OpQ.cast (d' := .bool true) (q_int rfl rfl rfl) (congrArg D.bool (decide_eq_true (by omega)))) ?_
        refine .op rfl (q_pick rfl rfl rfl rfl) ?_
        refine .op rfl (q_move rfl) ?_
        refine .op rfl (q_fldP rfl rfl rfl (by decide)) ?_
        refine .op rfl (Zaa rfl rfl rfl b1 (show _ = some (D.int .u8 (p.conv : Int)) by rw [← shf_conv K p]; rfl)) ?_
        refine .op rfl (q_move rfl) ?_
        refine .op rfl (q_move rfl) ?_
        refine .op rfl (ZbG rfl rfl rfl rfl b2 (by omega) (by rw [List.length_append]; show (init.length : Int) < ((init.length + 1 : Nat) : Int); omega) (show ((init.length : Nat) : Int).toNat * 9 = init.length * 9 by rw [Int.toNat_natCast])) ?_
        refine .op rfl (q_fldP rfl rfl rfl (by decide)) ?_
        refine .op rfl (Zaa rfl rfl rfl b2 (pcs_at init pp (r := 4) (by decide))) ?_
        refine .op rfl (OpQ.cast (d' := .bool true) (q_int rfl rfl rfl) (congrArg D.bool (decide_eq_true (by omega)))) ?_
        refine .op rfl (q_pick rfl rfl rfl rfl) ?_
        refine .op rfl (q_move rfl) ?_
        refine .op rfl (q_fldP rfl rfl rfl (by decide)) ?_
        refine .op rfl (Zaa rfl rfl rfl b1 (show _ = some (D.int .u8 (p.conv : Int)) by rw [← shf_conv K p]; rfl)) ?_
        refine .op rfl (OpQ.cast (d' := .bool false) (q_int rfl rfl rfl) (congrArg D.bool (decide_eq_false (by omega)))) ?_
        refine .op rfl (q_move rfl) ?_
        refine .op rfl (q_fldP rfl rfl rfl (by decide)) ?_
        refine .op rfl (Zaa rfl rfl rfl b1 (show _ = some (D.int .u8 (p.conv : Int)) by rw [← shf_conv K p]; rfl)) ?_
        refine .op rfl (OpQ.cast (d' := .bool false) (q_int rfl rfl rfl) (congrArg D.bool (decide_eq_false (by omega)))) ?_
        refine .op rfl (q_pick rfl rfl rfl rfl) ?_
        refine .op rfl (q_pick rfl rfl rfl rfl) ?_
        refine .nil (fun hG => ?_)
        refine AOps.nil ?_
        refine ARun.condF rfl ?_
        refine ARun.skip (ARun.region ?_); refine zzm ?_
        refine y_op rfl (Zaf rfl rfl rfl b1 rfl rfl) ?_
        refine y_op rfl (ZbH rfl rfl rfl rfl rfl rfl rfl rfl rfl rfl rfl (by decide) (by decide) rfl) ?_
        refine y_app3 (news := [shf K p]) rfl rfl ⟨id, rfl, b2⟩ rfl rfl rfl (by omega) (by show 1 ≤ 2000; decide) (fun d2 H3 z1 => ?_)
        refine zza ?_; refine AOps.nil (ARun.inBlock (ARun.region ?_)); refine zzm ?_
        refine y_op rfl (q_add rfl rfl (nadd1_i64 (by omega))) ?_
        refine zza ?_; refine AOps.nil ?_
        refine ARun.again (ih ((0 + 1, (init ++ [pp]) ++ [shf K p], d2, H3)) ?_ ?_) ?_ ?_
        · exact ⟨z1, g, .inr ⟨Nat.succ_pos _, hJ⟩, by rw [List.length_append]; show _ + 1 ≤ _; omega⟩
        · (dsimp only; omega)
        · (repeat' first | exact envLe_nil | apply envLe_any | apply envLe_same)
        rfl
      have hJ : jn K la lb = ((init ++ [pp]) ++ [shf K p]) ++ (lb.drop (0 + 1)).map (shf K) := by
        rw [hla, jn_step hdr (fun i0 p0 e => by
          have e2 := List.append_inj' e rfl
          have e3 : pp = p0 := by injection e2.2
          rw [← e3]; exact fun hh => hcv hh.1)]
      refine y_op rfl (OpQ.cast (d' := .int .i64 (init.length : Int)) (q_int rfl rfl rfl) (congrArg (D.int .i64) (by show IntKind.i64.wrap _ = _; rw [List.length_append]; show IntKind.i64.wrap (((init.length + 1 : Nat) : Int) - 1) = _; rw [IntWalk.i64_in _ (by omega)]; omega))) ?_
      refine zza ?_; refine AOps.nil (ARun.seq (ARun.seq ?_))
      refine ARun.drawnP 26 (fun _ => False) mixC rfl rfl (by kernel_rfl) (fun _ _ h => h.elim) ?_
      refine .op rfl (q_move rfl) ?_
      refine .op rfl (OpQ.cast (d' := .bool true) (q_int rfl rfl rfl) rfl) ?_
      refine .op rfl (q_move rfl) ?_
      refine .op rfl (q_move rfl) ?_
      refine .op rfl (OpQ.cast (d' := .bool true) (q_int rfl rfl rfl) (congrArg D.bool (decide_eq_true (by omega)))) ?_
      refine .op rfl (q_pick rfl rfl rfl rfl) ?_
      refine .op rfl (q_move rfl) ?_
      refine .op rfl (q_fldP rfl rfl rfl (by decide)) ?_
      refine .op rfl (Zaa rfl rfl rfl b1 (show _ = some (D.int .u8 (p.conv : Int)) by rw [← shf_conv K p]; rfl)) ?_
      refine .op rfl (q_move rfl) ?_
      refine .op rfl (q_move rfl) ?_
      refine .op rfl (ZbG rfl rfl rfl rfl b2 (by omega) (by rw [List.length_append]; show (init.length : Int) < ((init.length + 1 : Nat) : Int); omega) (show ((init.length : Nat) : Int).toNat * 9 = init.length * 9 by rw [Int.toNat_natCast])) ?_
      refine .op rfl (q_fldP rfl rfl rfl (by decide)) ?_
      refine .op rfl (Zaa rfl rfl rfl b2 (pcs_at init pp (r := 4) (by decide))) ?_
      refine .op rfl (OpQ.cast (d' := .bool false) (q_int rfl rfl rfl) (congrArg D.bool (decide_eq_false (by omega)))) ?_
      refine .op rfl (q_pick rfl rfl rfl rfl) ?_
      refine .op rfl (q_move rfl) ?_
      refine .skip rfl ?_
      refine .skip rfl ?_
      refine .skip rfl ?_
      refine .skip rfl ?_
      refine .skip rfl ?_
      refine .skip rfl ?_
      refine .skip rfl ?_
      refine .skip rfl ?_
      refine .op rfl (q_pick rfl rfl rfl rfl) ?_
      refine .nil (fun hG => ?_)
      refine AOps.nil ?_
      refine ARun.condF rfl ?_
      refine ARun.skip (ARun.region ?_); refine zzm ?_
      refine y_op rfl (Zaf rfl rfl rfl b1 rfl rfl) ?_
      refine y_op rfl (ZbH rfl rfl rfl rfl rfl rfl rfl rfl rfl rfl rfl (by decide) (by decide) rfl) ?_
      refine y_app3 (news := [shf K p]) rfl rfl ⟨id, rfl, b2⟩ rfl rfl rfl (by omega) (by show 1 ≤ 2000; decide) (fun d2 H3 z1 => ?_)
      refine zza ?_; refine AOps.nil (ARun.inBlock (ARun.region ?_)); refine zzm ?_
      refine y_op rfl (q_add rfl rfl (nadd1_i64 (by omega))) ?_
      refine zza ?_; refine AOps.nil ?_
      refine ARun.again (ih ((0 + 1, (init ++ [pp]) ++ [shf K p], d2, H3)) ?_ ?_) ?_ ?_
      · exact ⟨z1, g, .inr ⟨Nat.succ_pos _, hJ⟩, by rw [List.length_append]; show _ + 1 ≤ _; omega⟩
      · (dsimp only; omega)
      · (repeat' first | exact envLe_nil | apply envLe_any | apply envLe_same)
      rfl
    have hJ : jn K la lb = (out ++ [shf K p]) ++ (lb.drop (i + 1)).map (shf K) := by
      rcases i3 with ⟨e, _⟩ | ⟨_, e⟩
      · exact absurd e hi0
      rw [e, hdr, List.map_cons]; simp
    refine y_op rfl (OpQ.cast (d' := .int .i64 ((out.length : Int) - 1)) (q_int rfl rfl rfl) (congrArg (D.int .i64) (by show IntKind.i64.wrap _ = _; rw [IntWalk.i64_in _ (by omega)]))) ?_
    refine zza ?_; refine AOps.nil (ARun.seq (ARun.seq ?_))
    refine ARun.drawnP 26 (fun _ => False) mixC rfl rfl (by kernel_rfl) (fun _ _ h => h.elim) ?_
    refine .op rfl (q_move rfl) ?_
    refine .op rfl (OpQ.cast (d' := .bool false) (q_int rfl rfl rfl) (congrArg D.bool (decide_eq_false (by omega)))) ?_
    refine .op rfl (q_move rfl) ?_
    refine .skip rfl ?_
    refine .skip rfl ?_
    refine .op rfl (q_pick rfl rfl rfl rfl) ?_
    refine .op rfl (q_move rfl) ?_
    refine .skip rfl ?_
    refine .skip rfl ?_
    refine .skip rfl ?_
    refine .skip rfl ?_
    refine .skip rfl ?_
    refine .skip rfl ?_
    refine .skip rfl ?_
    refine .skip rfl ?_
    refine .op rfl (q_pick rfl rfl rfl rfl) ?_
    refine .op rfl (q_move rfl) ?_
    refine .skip rfl ?_
    refine .skip rfl ?_
    refine .skip rfl ?_
    refine .skip rfl ?_
    refine .skip rfl ?_
    refine .skip rfl ?_
    refine .skip rfl ?_
    refine .skip rfl ?_
    refine .op rfl (q_pick rfl rfl rfl rfl) ?_
    refine .nil (fun hG => ?_)
    refine AOps.nil ?_
    refine ARun.condF rfl ?_
    refine ARun.skip (ARun.region ?_); refine zzm ?_
    refine y_op rfl (Zaf rfl rfl rfl b1 rfl rfl) ?_
    refine y_op rfl (ZbH rfl rfl rfl rfl rfl rfl rfl rfl rfl rfl rfl (by decide) (by decide) rfl) ?_
    refine y_app3 (news := [shf K p]) rfl rfl ⟨id, rfl, b2⟩ rfl rfl rfl (by omega) (by show 1 ≤ 2000; decide) (fun d2 H3 z1 => ?_)
    refine zza ?_; refine AOps.nil (ARun.inBlock (ARun.region ?_)); refine zzm ?_
    refine y_op rfl (q_add rfl rfl (nadd1_i64 (by omega))) ?_
    refine zza ?_; refine AOps.nil ?_
    refine ARun.again (ih ((i + 1, out ++ [shf K p], d2, H3)) ?_ ?_) ?_ ?_
    · exact ⟨z1, g, .inr ⟨Nat.succ_pos _, hJ⟩, by rw [List.length_append]; show _ + 1 ≤ _; omega⟩
    · (dsimp only; omega)
    · (repeat' first | exact envLe_nil | apply envLe_any | apply envLe_same)
    rfl
  have hie : i = lb.length := by omega
  have hR : jn K la lb = out := by
    rcases i3 with ⟨e, e2⟩ | ⟨_, e⟩
    · have : lb = [] := List.eq_nil_of_length_eq_zero (by omega)
      rw [this, jn_nil, e2]
    rw [e, hie, List.drop_length]; simp
  have c6 : PC Cg ZeW [slP (jn K la lb), slP out] (fun o => o = .ret (.bool true)) := by
    have := c5
    rw [hR] at this ⊢
    exact this
  obtain ⟨id, hdd, hO⟩ := i1
  subst hdd
  refine ARun.exit rfl ?_
  refine ARun.seq (ARun.region ?_); refine zzm ?_; refine zzm ?_; refine zzm ?_; refine zzm ?_
  refine Ze3 (ids := [id]) (ds := [slP (jn K la lb), .row id out.length]) rfl rfl rfl (.cons (.same _) (.cons (.row hO (pures_pcs out)) .nil)) (c6 _) ?_ (by rintro _ _ ⟨_, h⟩; cases h)
  rintro d7 H7 ⟨rfl, h7⟩
  injection h7 with h7
  subst h7
  refine zzp ?_; refine zza ?_; refine AOps.nil ?_
  refine ARun.ret ?_
  refine ⟨_, _, _, .tmp rfl .nil, .cons (.same _) .nil, rfl, ?_⟩
  rfl
theorem ZeV (a b : ByteArray) : PC Cg Zak [.str a, .str b] (fun o => o = .ret (.bool true)) := by
  rcases ha : parseF a with ⟨la, e1, o1⟩
  by_cases h1 : e1 = 0
  · subst h1
    rcases hb : parseF b with ⟨lb, e2, o2⟩
    by_cases h2 : e2 = 0
    · subst h2
      by_cases h36 : 36 ∈ sby a
      · exact ScanJoins_d1 a b ha hb h36
      by_cases h37 : 36 ∈ sby b
      · exact ScanJoins_d2 a b ha hb h36 h37
      rcases parse_join ha hb h36 h37 with h | h
      · rcases hp : parseF (a ++ b) with ⟨lj, ej, oj⟩
        rw [hp] at h
        have h : ej = 2 := h
        subst h
        exact ScanJoins_lim a b ha hb h36 h37 hp
      exact ScanJoins_ok a b ha hb h36 h37 h
    exact ScanJoins_e2 a b ha hb h2
  exact ScanJoins_e1 a b ha h1
end Go.V
/- THE ROWS: what the arguments read as, and what is left behind a call. -/
set_option maxRecDepth 100000
namespace Go.V
open Go.RowKit Go.Proofs Go.ChangeShapes Go.WideShapes Go.ChangeAt Go.ChangeMaps Go.Proofs.YthankfodgdfgaaaDoor
theorem laidOutZ : laidOutB Tryd.prog = true := by kernel_rfl
theorem ownZ : ownKnob Tryd.prog.godebug = none := by kernel_rfl
theorem forb0 : forb (fun _ => False) [] [] = fun _ => False := by
  funext b
  apply propext
  constructor
  · rintro (h | ⟨i, o, h, _⟩)
    · exact h
    simp at h
  exact fun h => h.elim
section
variable {H : Type} {enc : TypeId × Value → H} {W : World}
theorem vr_string {base : Nat} {v : Value} {d : DataW H} {p : List MemPlace} (hv : Value.okWide Tryd.prog W .any base 9 v) (h : DataW.Trod enc Tryd.prog W 0 (fun _ => true) true 9 v d p) :
    ∃ s : ByteArray, s.size ≤ maxLen ∧ VR W (fun _ => False) [] [] (.str s) v := by
  obtain ⟨s, rfl, _, _, hs⟩ := open_string Tryd.underlying9 hv h
  exact ⟨s, hs, by simp only [VR]⟩
theorem trodAll_stays {W' : World} (hb : Below W.heap.size W W') {sp : Nat → Bool} : ∀ {ts : List TypeId} {vs : List Value} {ds : List (DataW H)} {p : List MemPlace}, (∀ t ∈ ts, Tryd.prog.readableRec t = true ∧ t < Tryd.prog.types.size) →
    DataW.TrodAll enc Tryd.prog W 0 (fun _ => true) true ts vs ds p → (∀ x ∈ p, x.block < W.heap.size ∧ sp x.block = true) → DataW.TrodAll enc Tryd.prog W' 0 sp true ts vs ds p
  | [], _, _, _, _, h, _ => by
    obtain ⟨rfl, rfl, rfl⟩ := trodAll_nil h
    simp [DataW.TrodAll]
  | t :: ts, _, _, _, ht, h, hp => by
    obtain ⟨v, vs, d, ds, a, b, rfl, rfl, rfl, h1, h2⟩ := trodAll_cons h
    obtain ⟨r1, r2⟩ := ht t (List.mem_cons_self ..)
    exact ⟨a, b, WideElems.Trod_stays laidOutZ r1 r2 h1 (fun x hx => hb.same (hp x (List.mem_append_left _ hx)).1) (fun x hx => (hp x (List.mem_append_left _ hx)).2),
      trodAll_stays hb (fun t ht' => ht t (List.mem_cons_of_mem _ ht')) h2 (fun x hx => hp x (List.mem_append_right _ hx)), rfl⟩
theorem law_post {fn : Func} {s : ChangeSpec} {W' : World} {args : Array Value} {ds : List (DataW H)} {before : List MemPlace} (hs : s.vars = []) (hW : DataW.Whole enc Tryd.prog fn.params.toList s.vars false W args.toList ds [] before) (hf : s.fn H ds = { results := [.lit (.bool true)], args := ds })
    (hr : fn.resultTypes = #[4]) (hts : ∀ t ∈ fn.params.toList, Tryd.prog.readableRec t = true ∧ t < Tryd.prog.types.size) (hb : Below W.heap.size W W') : s.post enc Tryd.prog fn false true false false W args (.bool true) W' := by
  have hW' := hW
  obtain ⟨p, q, hA, hV, rfl, _, _⟩ := hW
  rw [hs] at hV
  obtain ⟨_, rfl⟩ := trodVars_none hV
  have hlt : ∀ x ∈ p, x.block < W.heap.size := fun x hx => by simpa using hW'.lt x (List.mem_append_left _ hx)
  refine ⟨ds, [], p ++ [], [], p, [], hW', ?_, ?_, ?_, hb.frame _, fun h => by cases h⟩
  · rw [List.append_nil, hf, hr]
    exact trodAll_mk1 (shut_bool Tryd.underlying4 _)
  · rw [List.append_nil, hf]
    exact trodAll_stays hb hts hA fun x hx => ⟨hlt x hx, by simpa using hlt x hx⟩
  rw [List.append_nil, hf, hs]
  rfl
end
/-! THE TABLES, AS THEY LIE. -/
inductive F2 {A B : Type} (R : A → B → Prop) : List A → List B → Prop where
  | nil : F2 R [] []
  | cons {a : A} {b : B} {xs : List A} {ys : List B} : R a b → F2 R xs ys → F2 R (a :: xs) (b :: ys)
theorem F2.pull {A B : Type} {R : A → B → Prop} {ys zs : List B} (h : ys.Perm zs) : ∀ {xs : List A}, F2 R xs ys → ∃ l : List A, l.Perm xs ∧ F2 R l zs := by
  induction h with
  | nil => intro xs h; exact ⟨xs, .refl _, h⟩
  | cons b _ ih =>
    intro xs h
    cases h with
    | cons h1 h2 =>
      obtain ⟨l, p, q⟩ := ih h2
      exact ⟨_ :: l, p.cons _, .cons h1 q⟩
  | swap a b l =>
    intro xs h
    cases h with
    | cons h1 h2 =>
      cases h2 with
      | cons h3 h4 => exact ⟨_, .swap .., .cons h3 (.cons h1 h4)⟩
  | trans _ _ ih1 ih2 =>
    intro xs h
    obtain ⟨l, p, q⟩ := ih1 h
    obtain ⟨l2, p2, q2⟩ := ih2 q
    exact ⟨l2, p2.trans p, q2⟩
theorem F2.of_mapM {A B : Type} {f : A → Option B} : ∀ {xs : List A} {ys : List B}, xs.mapM f = some ys → F2 (fun a b => f a = some b) xs ys
  | [], ys, h => by
    simp at h; subst h; exact .nil
  | a :: xs, ys, h => by
    rw [List.mapM_cons] at h
    simp only [bind, Option.bind_eq_some_iff, pure, Option.some.injEq] at h
    obtain ⟨b, h1, bs', h2, rfl⟩ := h
    exact .cons h1 (F2.of_mapM h2)
theorem F2.map {A B E : Type} {R : A → B → Prop} {Q : A → E → Prop} {g : B → E} (h : ∀ a b, R a b → Q a (g b)) : ∀ {xs : List A} {ys : List B}, F2 R xs ys → F2 Q xs (ys.map g)
  | _, _, .nil => .nil
  | _, _, .cons h1 h2 => .cons (h _ _ h1) (F2.map h h2)
theorem int_cells {e : TypeId} {ke : IntKind} {v : Value} {c : Int} (he : Tryd.prog.underlying e = some (.int ke)) (hf : v.formed Tryd.prog e = true) (h : v.cells.toList = [.int ke c]) : v = .int ke c := by
  cases v with
  | agg cs => simp [Value.formed, he] at hf
  | _ => simpa [Value.cells] using h
def rowR (H : Type) (kk ke : IntKind) (x : MapEntry) (y : Lit × DataW H) : Prop := ∃ a c : Int, x.key = .int kk a ∧ y.1 = .int kk a ∧ x.val = .int ke c ∧ y.2 = .lit (.int ke c)
theorem row_entries {H : Type} {enc : TypeId × Value → H} {w : World} {base : Nat} {sp : Nat → Bool} {held : Bool} {fuel : Nat} {k e : TypeId} {t : TypeId} {kk ke : IntKind} {cs : List Value} {dd : List (Lit × DataW H)} {p : List MemPlace}
    (ht : Tryd.prog.underlying t = some (.map k e)) (hk : Tryd.prog.underlying k = some (.int kk)) (he : Tryd.prog.underlying e = some (.int ke))
    (h : DataW.trod enc Tryd.prog w base sp held fuel t cs = some (.map dd, p)) :
    ∃ (b : Nat) (es : Array MapEntry) (clock : Nat), cs = [.map (some b)] ∧ w.heap[b]? = some (.map es clock) ∧ ∃ l : List MapEntry, l.Perm es.toList ∧ F2 (rowR H kk ke) l dd := by
  cases fuel with
  | zero => simp [DataW.trod] at h
  | succ n =>
    unfold DataW.trod at h
    simp only [ht] at h
    split at h
    all_goals first | (cases h; done) | (rename_i e1; cases e1; done) | skip
    all_goals try (simp at h; done)
    all_goals try (rename_i e1 _; cases e1; done)
    rename_i b hX
    injection hX with hX
    injection hX with a1 a2
    subst a1; subst a2
    split at h
    · rename_i es clock hb
      split at h
      · simp only [Option.bind_eq_some_iff] at h
        obtain ⟨entries, h1, h2⟩ := h
        split at h2
        · simp only [Option.some.injEq, Prod.mk.injEq, DataW.map.injEq] at h2
          obtain ⟨rfl, _⟩ := h2
          have f1 := F2.of_mapM h1
          have f2 : F2 (rowR H kk ke) es.toList (entries.map (·.1)) := f1.map fun x y hx => by
            simp only [Option.bind_eq_some_iff] at hx
            obtain ⟨key, g1, g2⟩ := hx
            split at g2
            · rename_i hf
              simp only [Option.map_eq_some_iff] at g2
              obtain ⟨z, g3, rfl⟩ := g2
              obtain ⟨a, e1, e2, _⟩ := Maps.keyOf_int_inv hk g1
              obtain ⟨c, e3, e4, _⟩ := DataW.trod_int he g3
              subst e4
              exact ⟨a, c, e1, e2, int_cells he hf e3, rfl⟩
            cases g2
          obtain ⟨l, hl, hf⟩ := F2.pull (sorted_perm _).symm f2
          exact ⟨b, es, clock, rfl, hb, l, hl, hf⟩
        cases h2
      cases h
    cases h
theorem rows_vr {W : World} {L : Nat → Prop} : ∀ {l : List MapEntry} {es : List (Nat × Nat)}, F2 (rowR Unit .u8 .i64) l (es.map fun e => (Lit.int .u8 (e.1 : Int), DataW.lit (.int .i64 (e.2 : Int)))) → VRs W L [] [] (es.map fun e => D.int .u8 (e.1 : Int)) (l.map (·.key)) ∧ VRs W L [] [] (es.map fun e => D.int .i64 (e.2 : Int)) (l.map (·.val))
  | [], [], _ => ⟨by simp only [List.map_nil, VRs], by simp only [List.map_nil, VRs]⟩
  | [], _ :: _, h => by cases h
  | _ :: _, [], h => by cases h
  | x :: l, e :: es, h => by
    cases h with
    | cons h1 h2 =>
      obtain ⟨a, c, g1, g2, g3, g4⟩ := h1
      injection g2 with _ g2
      injection g4 with g4
      injection g4 with _ g4
      subst g2; subst g4
      obtain ⟨r1, r2⟩ := rows_vr h2
      simp only [List.map_cons, VRs, VR]
      exact ⟨⟨_, _, rfl, g1, r1⟩, ⟨_, _, rfl, g3, r2⟩⟩
theorem table_GR {W : World} {n : String} {g : Nat} {cs : Array Value} {ds : List D} (hg : Tryd.prog.globalNamed n = some g) (hv : W.var? Tryd.prog n = some cs) (hne : ds ≠ []) (hd : valsD ds = some cs.toList) :
    g < W.heap.size ∧ GR W (fun _ => False) g ds := by
  have hcell : ∀ (j : Nat) (v : Value), cs.toList[j]? = some v → W.cell? ⟨g, 0 + j, none⟩ = some v := fun j v hj => by
    rw [Nat.zero_add, World.var?_cell hg hv j]
    simpa using hj
  have hlen : ∀ {ds : List D} {vs : List Value}, valsD ds = some vs → vs.length = ds.length := by
    intro ds
    induction ds with
    | nil => intro vs h; simp only [valsD] at h; injection h with h; subst h; rfl
    | cons d ds ih =>
      intro vs h
      simp only [valsD] at h
      split at h
      · rename_i h1 h2
        injection h with h; subst h
        rw [List.length_cons, List.length_cons, ih h2]
      cases h
  have hb : ∃ e fz, W.heap[g]? = some (.cells cs e fz) := by
    unfold World.var? at hv
    rw [hg, Option.bind_some] at hv
    split at hv
    · rename_i h; injection hv with hv; subst hv; exact ⟨_, _, h⟩
    cases hv
  obtain ⟨e, fz, hb⟩ := hb
  refine ⟨?_, VRL_vals hd hcell, cs, e, fz, hb, ?_⟩
  · apply Classical.byContradiction
    intro hn
    have : W.heap[g]? = none := by rw [Array.getElem?_eq_none_iff]; omega
    rw [this] at hb; cases hb
  have := hlen hd; simpa using this
def Laid3 (W : World) : Prop := ∀ (g : Nat) (cs : List D), (g, cs) ∈ Cg.gl → g < W.heap.size ∧ GR W (fun _ => False) g cs
theorem tables_laid {W : World} (h : laidMetH Tryd.prog Rows.scanSetsRow.laid W) : Laid3 W := by
  rw [MakeChecks.laidMetH_plain _ _ _ (by kernel_rfl)] at h
  obtain ⟨ps, ⟨g0, t0, cs0, f0, p0, q0, hg0, ht0, hv0, hd0, ⟨g1, t1, cs1, f1, p1, q1, hg1, ht1, hv1, hd1, ⟨g2, t2, cs2, f2, p2, q2, hg2, ht2, hv2, hd2, ⟨g3, t3, cs3, f3, p3, q3, hg3, ht3, hv3, hd3, ⟨g4, t4, cs4, f4, p4, q4, hg4, ht4, hv4, hd4, _, _⟩, _⟩, _⟩, _⟩, _⟩, _, _⟩ := h
  have e2 : Tryd.prog.globalNamed "internal/strconv.uint64pow10" = some 3 := by kernel_rfl
  have e3 : Tryd.prog.globalNamed "soroban/scanspec.rows" = some 0 := by kernel_rfl
  have e4 : Tryd.prog.globalNamed "soroban/scanspec.lengths" = some 1 := by kernel_rfl
  have y2 : (Tryd.prog.globals[3]?).map (·.type) = some 123 := by kernel_rfl
  have y3 : (Tryd.prog.globals[0]?).map (·.type) = some 95 := by kernel_rfl
  have y4 : (Tryd.prog.globals[1]?).map (·.type) = some 99 := by kernel_rfl
  obtain rfl := Option.some.inj (e2.symm.trans hg2)
  obtain rfl := Option.some.inj (e3.symm.trans hg3)
  obtain rfl := Option.some.inj (e4.symm.trans hg4)
  obtain rfl := Option.some.inj (y2.symm.trans ht2)
  obtain rfl := Option.some.inj (y3.symm.trans ht3)
  obtain rfl := Option.some.inj (y4.symm.trans ht4)
  have k2 := flat_ok 4 f2 123 cs2.toList _ (by kernel_rfl) hd2
  have k4 := flat_ok 4 f4 99 cs4.toList _ (by kernel_rfl) hd4
  have v2 : valsD powCells = flatV (Rows.laid_internal_strconv_uint64pow10 (H := Unit)) := by rfl
  have v4 : valsD lensA = flatV (Rows.laid_soroban_scanspec_lengths (H := Unit)) := by rfl
  have n2 : powCells ≠ [] := by intro h; cases h
  have n4 : lensA ≠ [] := by intro h; cases h
  have r2 := table_GR e2 hv2 n2 (v2.trans k2)
  have r4 := table_GR e4 hv4 n4 (v4.trans k4)
  obtain ⟨b, es, clock, c1, c2, l, c3, c4⟩ := row_entries (kk := .u8) (ke := .i64) Tryd.underlying95 Tryd.underlying5 Tryd.underlying3 hd3
  obtain ⟨m1, m2⟩ := rows_vr (W := W) (L := fun _ => False) (es := rowEs) c4
  have hb : ∃ e fz, W.heap[0]? = some (.cells cs3 e fz) := by
    unfold World.var? at hv3
    rw [e3, Option.bind_some] at hv3
    split at hv3
    · rename_i h; injection hv3 with hv3; subst hv3; exact ⟨_, _, h⟩
    cases hv3
  obtain ⟨e, fz, hb⟩ := hb
  have lt : ∀ {i : Nat} {o : Obj}, W.heap[i]? = some o → i < W.heap.size := fun {i o} hi => by
    apply Classical.byContradiction
    intro hn
    have : W.heap[i]? = none := by rw [Array.getElem?_eq_none_iff]; omega
    rw [this] at hi; cases hi
  have hc0 : W.cell? ⟨0, 0, none⟩ = some (.map (some b)) := by
    rw [World.var?_cell e3 hv3 0, ← Array.getElem?_toList, c1]; rfl
  intro g cs hg
  have hg : (g, cs) ∈ [(0, [D.mapv rowKs rowVs]), (1, lensA), (3, powCells)] := hg
  simp only [List.mem_cons, List.not_mem_nil, or_false, Prod.mk.injEq] at hg
  rcases hg with ⟨rfl, rfl⟩ | ⟨rfl, rfl⟩ | ⟨rfl, rfl⟩
  · refine ⟨lt hb, ?_, cs3, e, fz, hb, by have := congrArg List.length c1; simpa using this⟩
    simp only [VRL]
    refine ⟨⟨.map (some b), hc0, rfl, ?_⟩, trivial⟩
    simp only [VR]
    exact ⟨b, es, clock, rfl, lt c2, fun h => h, c2, l, c3, m1, m2⟩
  · exact r4
  exact r2
theorem SRg {W : World} (h : Laid3 W) : SR Cg (fun _ => False) W [] [] :=
  ⟨rfl, fun i o b h => by simp at h, fun i j oi oj b h => by simp at h, fun i o b h => by simp at h, fun b h => h.elim, fun g cs hg => by
    rw [forb0]
    exact ⟨(h g cs hg).1, fun h => h, (h g cs hg).2⟩⟩
theorem law_callsG {f : FuncId} {ds : List D} {W : World} {vs : List Value} (hl : Laid3 W) (hc : PC Cg f ds (fun o => o = .ret (.bool true))) (hv : VRs W (fun _ => False) [] [] ds vs) : Calls Tryd.prog f vs.toArray W fun e W' => e = .returned (.bool true) ∧ Below W.heap.size W W' := by
  have h := (hc []).2 (fun _ => False) W [] vs (SRg hl) (by rw [forb0]; exact hv)
  refine h.mono ?_
  rintro e W' ⟨o, H', μ', ⟨rfl, rfl⟩, _, ⟨v, he, hv'⟩, hevo⟩
  simp only [VR] at hv'
  subst hv'
  exact ⟨he, hevo.os, hevo.tape, hevo.output, hevo.size, fun k hk => hevo.chg k hk fun ⟨i, o, h, _⟩ => by simp at h⟩
end Go.V
/- THE ROWS OF SCAN SPECIFICATIONS: what a set and what a list of pieces read as. -/
set_option maxRecDepth 100000
namespace Go.V
open Go.RowKit Go.Proofs Go.ChangeShapes Go.WideShapes Go.ChangeAt Go.ChangeMaps Go.Proofs.YthankfodgdfgaaaDoor
section
variable {H : Type} {enc : TypeId × Value → H} {W : World}
end
end Go.V
/- A START THAT MEETS WHAT THE ROWS SAY OF THE TABLES: the map of rows laid by hand, the other tables by the kit's law. -/
set_option maxRecDepth 100000
namespace Go.V
open Go.RowKit Go.Proofs Go.ChangeShapes Go.WideShapes Go.ChangeAt Go.ChangeMaps Go.Proofs.YthankfodgdfgaaaDoor
def rowMap : Obj := .map (rowEs.zipIdx.map fun x => (⟨.int .u8 (x.1.1 : Int), .int .i64 (x.1.2 : Int), x.2⟩ : MapEntry)).toArray 20
def setRow (b : Nat) : Obj → Obj
  | .cells _ t frozen => .cells #[.map (some b)] t frozen
  | o => o
noncomputable def mapN (os : Os) : Nat := (World.settled Tryd.prog os).heap.size
noncomputable def mapW0 (os : Os) : World :=
  let w := World.holding Tryd.prog os ⟨#[rowMap], #[], []⟩
  { w with heap := w.heap.modify 0 (setRow (mapN os)) }
def great4 : List String := ["math/bits.deBruijn32tab", "math/bits.deBruijn64tab", "internal/strconv.uint64pow10", "soroban/scanspec.lengths"]
def laid5 : List (String × DataW Unit) := Rows.scanSetsRow.laid
noncomputable def mapW (os : Os) : World := (mapW0 os).layVars Tryd.prog (laid5.filter fun x => great4.contains x.1)
theorem mapW_os (os : Os) : (mapW os).os = os := by unfold mapW; rw [World.layVars_os]; rfl
theorem mapW_shaped (os : Os) : (mapW os).Shaped Tryd.prog := World.shaped_of_ZipB (by kernel_rfl) (by kernel_rfl)
theorem mapW_in (os : Os) : LaidIn Tryd.prog (mapW os) (laid5.filter fun x => !great4.contains x.1) [0, mapN os] :=
  LaidIn.of_run [0, mapN os] 8 (by kernel_rfl) (by kernel_rfl) (by kernel_rfl) (by kernel_rfl)
theorem mapW_laid (os : Os) : laidMet Tryd.prog laid5 (mapW os) :=
  laidMet_layVars (w0 := mapW0 os) great4 [0, mapN os] rfl (by kernel_rfl) (by kernel_rfl) (mapW_in os)
theorem mapW_met (os : Os) (args : Array Value) : laidMetH Tryd.prog Rows.scanSetsRow.laid ((mapW os).forCall (fun _ _ => 0) ⟨#[], args, []⟩).memory := by
  rw [MakeChecks.laidMetH_plain _ _ _ (by kernel_rfl)]
  exact (mapW_laid os).of_heap (by simp [World.memory, World.forCall, Input.heap])
end Go.V
/- The closed facts of a row, one by one: what holds of the program itself, and how they are joined; no condition. -/
set_option maxRecDepth 100000
namespace Go.V
open Go.Proofs
theorem and_t {a b : Bool} (h1 : a = true) (h2 : b = true) : (a && b) = true := by rw [h1, h2]; rfl
theorem joined_of {P : Program} {f : FuncId} {fn : Func} {s : ChangeSpec} {c : OpenClaim}
    (k1 : (c.wf (OpenSpec.ofChange s)) = true)
    (k2 : (laidOutB P) = true)
    (k3 : (mapsRowed P) = true)
    (k4 : (fn.params.all (P.readableRec ·)) = true)
    (k5 : (namedTie P c.named s.vars) = true)
    (k6 : (c.stops == []) = true)
    (k7 : (P.stops == []) = true)
    (k8 : (c.knobs == []) = true)
    (k9 : (P.stopKnobs == []) = true)
    (k10 : (c.inPlace == P.inPlace f) = true)
    (k11 : (c.unfollowed == P.unfollowed f) = true)
    (k12 : (c.recurses == P.recurses f) = true)
    (k13 : (c.named == P.varsNamed f) = true)
    (k14 : ((c.maps == (fn.params.toList ++ s.plain.varTypes P).any (P.mapsRec ·))) = true)
    (k15 : ((c.ifaces == (fn.params.toList ++ s.plain.varTypes P).any (P.ifacesRec ·))) = true)
    (k16 : (c.mapsOut == P.mapsAmong fn.resultTypes.toList) = true)
    (k17 : ((c.loops == (fn.params.toList ++ s.plain.varTypes P).any (P.loopsFrom ·))) = true)
    (k18 : ((c.wideKeys == (fn.params.toList ++ s.plain.varTypes P ++ fn.resultTypes.toList).any (P.wideKeysFrom ·))) = true)
    (k19 : (s.vars.all (P.varReadable ·)) = true)
    (k20 : (fn.resultTypes.all (fun t => P.readableRec t && decide (t < P.types.size))) = true)
    (k21 : ((c.ifacesOut == fn.resultTypes.toList.any (P.ifacesRec ·))) = true)
    (k22 : ((c.loopsOut == fn.resultTypes.toList.any (P.loopsFrom ·))) = true)
    (k23 : (c.plainKeys == P.plainKeys) = true)
    (k24 : (c.shortTexts.isNone) = true)
    (k25 : (P.stopsHeard) = true)
    (k26 : (P.mayEnter) = true)
    (k27 : (c.lifted == P.liftsFinal) = true)
    (k28 : (P.make == some c.make) = true)
    (k29 : ((c.kinds == (if c.domain.isEmpty then [] else fn.params.toList.map fun t => match P.underlying t with | some (.int k) => some k | _ => none))) = true)
    (k30 : (c.pinned == c.pinnedBy) = true)
    (k31 : ((c.veiled == (fn.params.toList ++ s.plain.varTypes P ++ fn.resultTypes.toList).any (P.veiledRec ·))) = true)
    (k32 : (c.veiledFits P fn.params.toList (fn.params.toList ++ s.plain.varTypes P ++ fn.resultTypes.toList)) = true)
    : joinedFacts P f fn s c = true := by
  unfold joinedFacts
  exact and_t (and_t (and_t (and_t (and_t (and_t (and_t (and_t (and_t (and_t (and_t (and_t (and_t (and_t (and_t (and_t (and_t (and_t (and_t (and_t (and_t (and_t (and_t (and_t (and_t (and_t (and_t (and_t (and_t (and_t (and_t k1 k2) k3) k4) k5) k6) k7) k8) k9) k10) k11) k12) k13) k14) k15) k16) k17) k18) k19) k20) k21) k22) k23) k24) k25) k26) k27) k28) k29) k30) k31) k32
theorem z_maps : mapsRowed Tryd.prog = true := by kernel_rfl
theorem z_plainKeys : (Go.Proofs.YthankfodgdfgaaaDoor.Rows.scanSetsRow.plainKeys == Tryd.prog.plainKeys) = true := by kernel_rfl
theorem z_stopsHeard : Tryd.prog.stopsHeard = true := by kernel_rfl
theorem z_lifts : (Go.Proofs.YthankfodgdfgaaaDoor.Rows.scanSetsRow.lifted == Tryd.prog.liftsFinal) = true := by kernel_rfl
theorem z_make : (Tryd.prog.make == some Go.Proofs.YthankfodgdfgaaaDoor.Rows.scanSetsRow.make) = true := by kernel_rfl
theorem z_main : YthankfodgdfgaaaDoor.Tryd.pinned.checked.prog.mainIs = some (true, "4a358535a3fdcf16b8f6994064c82af79c63477f10344ea5494afcbe3a711897".toList) := by kernel_rfl
theorem z_looks : true = Tryd.prog.looks [] := by kernel_rfl
theorem z_enter : Tryd.prog.mayEnter = true := by kernel_rfl
end Go.V
