/- A part of the proof: abstract values, rules for the steps of the program's form, and contracts of its functions, each proved; no condition. -/
import Derived.Test.YtjohcjagbodicaaGreatDoorA16
import Derived.Test.YtjohcjagbodicaaGreatDoorTie
import Derived.Test.YtjohcjagbodicaaGreatDoorCards
import Derived.ProofKit
import Derived.OpenShut
import Derived.LaidMore
import Derived.Lay
import Derived.SevenTiedAt
import Derived.Carry
import Derived.Stop.Joined
set_option linter.unusedVariables false
set_option linter.unusedSimpArgs false
set_option maxHeartbeats 4000000
set_option maxRecDepth 100000
set_option synthInstance.maxSize 100000
set_option synthInstance.maxHeartbeats 2000000
namespace Go.V
open Go.RowKit Go.Proofs
abbrev wr0 : D := .agg [.nilsl, .int .u32 0]
abbrev bitM : List (D × D) := [(.int .i64 1, .bnd Zbq [wr0]), (.int .i64 2, .bnd ZbF [wr0]), (.int .i64 3, .bnd Zbr [wr0])]
noncomputable def bitO (op : Int) (a b : Int) : Int ⊕ Int := if 1 ≤ op ∧ op ≤ 3 then fitO (bitZ op a b) else .inr 1
theorem find_no {op : Int} (h : ¬ (1 ≤ op ∧ op ≤ 3)) : findI .i64 op bitM = some none := by
  have h1 : (op == 1) = false := beq_eq_false_iff_ne.2 (by omega)
  have h2 : (op == 2) = false := beq_eq_false_iff_ne.2 (by omega)
  have h3 : (op == 3) = false := beq_eq_false_iff_ne.2 (by omega)
  simp only [bitM, findI, h1, h2, h3, decide_true, cond_true, cond_false]
theorem find_op {op : Int} (h1 : 1 ≤ op) (h3 : op ≤ 3) : ∃ f, findI .i64 op bitM = some (some (.bnd f [wr0])) ∧ ∀ x y : Nat, x < 4294967296 → y < 4294967296 → PC C f [wr0, .int .u32 (x : Int), .int .u32 (y : Int)] (fun o => o = .ret (.int .u32 ((bo op x y : Nat) : Int))) := by
  have : op = 1 ∨ op = 2 ∨ op = 3 := by omega
  rcases this with rfl | rfl | rfl
  · exact ⟨Zbq, rfl, fun x y hx hy => ZoV x y hx hy⟩
  · exact ⟨ZbF, rfl, fun x y hx hy => Zpf x y hx hy⟩
  · exact ⟨Zbr, rfl, fun x y hx hy => ZoW x y hx hy⟩
theorem elL_lt {l : List Nat} {b : Bool} {i : Nat} (h : U32 l) : elL l b i < 4294967296 := by
  unfold elL
  split
  · exact h.get i
  · cases b <;> decide
theorem boL_snocL (op a b : Int) (i : Nat) : boL op a b (i + 1) = boL op a b i ++ [bo op (elL (wl a) (decide (a < 0)) i) (elL (wl b) (decide (b < 0)) i)] := boL_snoc op a b i
theorem rsN_lt (b : Bool) : rsN b < 4294967296 := by cases b <;> decide
theorem Zlm (op : Int) (a b : Int) (hop : ¬ (1 ≤ op ∧ op ≤ 3)) : PC C Zb9 [.sptr [.int .i64 op], capZ a, capZ b] (fun o => o = outZ (bitO op a b)) := by
  have hO : bitO op a b = .inr 1 := by unfold bitO; rw [if_neg hop]
  rw [hO]
  have hf := find_no hop
  refine PC.run ZbO Zc4 rfl Zc5 rfl (rs := [.cell 3 25]) (by rw [Zc6]) (by simp only [List.length_cons, List.length_nil, Nat.reduceAdd, Nat.reduceSub, List.replicate_succ, List.replicate_zero, List.cons_append, List.nil_append]; exact rfl) ?_
  refine ARun.seq (ARun.region ?_)
  refine y_new rfl (Zag rfl rfl rfl rfl) ?_
  refine AOps.nil (ARun.seq (ARun.region ?_))
  refine y_new rfl (Zag rfl rfl rfl rfl) ?_
  refine AOps.nil (ARun.seq (ARun.region ?_))
  refine y_new rfl (ZhD (kt := 3) (et := 151) (by kernel_rfl) (.inl rfl)) ?_
  refine y_op rfl (Zaf rfl rfl rfl rfl rfl rfl) ?_
  refine y_op rfl (Ze8 rfl) ?_
  refine y_new rfl (ZaC (kt := 3) (et := 151) (.inl rfl) (by kernel_rfl) (by kernel_rfl) rfl rfl rfl rfl rfl) ?_
  refine y_op rfl (Zaf rfl rfl rfl rfl rfl rfl) ?_
  refine y_op rfl (Ze8 rfl) ?_
  refine y_new rfl (ZaC (kt := 3) (et := 151) (.inl rfl) (by kernel_rfl) (by kernel_rfl) rfl rfl rfl rfl rfl) ?_
  refine y_op rfl (Zaf rfl rfl rfl rfl rfl rfl) ?_
  refine y_op rfl (Ze8 rfl) ?_
  refine y_new rfl (ZaC (kt := 3) (et := 151) (.inl rfl) (by kernel_rfl) (by kernel_rfl) rfl rfl rfl rfl rfl) ?_
  refine y_op rfl (q_move rfl) ?_
  refine y_op rfl (q_load rfl rfl rfl rfl) ?_
  refine y_op rfl (Zmi (kt := 3) (et := 151) (by kernel_rfl) (by kernel_rfl) rfl rfl rfl rfl rfl hf) ?_
  refine y_op rfl (q_move rfl) ?_
  refine y_op rfl (Zab rfl rfl) ?_
  refine y_op rfl (Zab rfl rfl) ?_
  refine y_op rfl (Zaa rfl) ?_
  refine y_op rfl (Zaa rfl) ?_
  refine AOps.nil (ARun.seq (ARun.region ?_))
  refine y_op rfl (q_move rfl) ?_
  refine y_gop rfl (g_call rfl rfl (PC.gp (ZaH _ 1))) (fun hg => by cases hg) (fun q hq => by obtain ⟨hq, rfl⟩ := hq; exact ⟨_, _, .same _, rfl, rfl⟩)
theorem Zln (op : Int) (a b : Int) (ha : fitZ a) (hb : fitZ b) (hop : 1 ≤ op ∧ op ≤ 3) : PC C Zb9 [.sptr [.int .i64 op], capZ a, capZ b] (fun o => o = outZ (bitO op a b)) := by
  obtain ⟨f, hf, hfc⟩ := find_op hop.1 hop.2
  have hO : bitO op a b = fitO (bitZ op a b) := by unfold bitO; rw [if_pos hop]
  rw [hO]
  have hla := wl_len a
  have hlb := wl_len b
  have hal : (wl a).length ≤ 1024 := Nat.le_trans hla ha
  have hbl : (wl b).length ≤ 1024 := Nat.le_trans hlb hb
  refine PC.run ZbO Zc4 rfl Zc5 rfl (rs := [.cell 3 25]) (by rw [Zc6]) (by simp only [List.length_cons, List.length_nil, Nat.reduceAdd, Nat.reduceSub, List.replicate_succ, List.replicate_zero, List.cons_append, List.nil_append]; exact rfl) ?_
  refine ARun.seq (ARun.region ?_)
  refine y_new rfl (Zag rfl rfl rfl rfl) ?_
  refine AOps.nil (ARun.seq (ARun.region ?_))
  refine y_new rfl (Zag rfl rfl rfl rfl) ?_
  refine AOps.nil (ARun.seq (ARun.region ?_))
  refine y_new rfl (ZhD (kt := 3) (et := 151) (by kernel_rfl) (.inl rfl)) ?_
  refine y_op rfl (Zaf rfl rfl rfl rfl rfl rfl) ?_
  refine y_op rfl (Ze8 rfl) ?_
  refine y_new rfl (ZaC (kt := 3) (et := 151) (.inl rfl) (by kernel_rfl) (by kernel_rfl) rfl rfl rfl rfl rfl) ?_
  refine y_op rfl (Zaf rfl rfl rfl rfl rfl rfl) ?_
  refine y_op rfl (Ze8 rfl) ?_
  refine y_new rfl (ZaC (kt := 3) (et := 151) (.inl rfl) (by kernel_rfl) (by kernel_rfl) rfl rfl rfl rfl rfl) ?_
  refine y_op rfl (Zaf rfl rfl rfl rfl rfl rfl) ?_
  refine y_op rfl (Ze8 rfl) ?_
  refine y_new rfl (ZaC (kt := 3) (et := 151) (.inl rfl) (by kernel_rfl) (by kernel_rfl) rfl rfl rfl rfl rfl) ?_
  refine y_op rfl (q_move rfl) ?_
  refine y_op rfl (q_load rfl rfl rfl rfl) ?_
  refine y_op rfl (Zmi (kt := 3) (et := 151) (by kernel_rfl) (by kernel_rfl) rfl rfl rfl rfl rfl hf) ?_
  refine y_op rfl (q_move rfl) ?_
  refine y_op rfl (Zab rfl rfl) ?_
  refine y_op rfl (Zab rfl rfl) ?_
  refine y_op rfl (Zaa rfl) ?_
  refine y_op rfl (Zaa rfl) ?_
  refine AOps.nil (ARun.seq (ARun.region ?_))
  refine y_op rfl (q_move rfl) ?_
  refine y_op rfl (q_call rfl rfl (need_ok 1)) ?_
  refine AOps.nil (ARun.seq ?_)
  refine ARun.drawnF (n := 8) (fun S : Nat → Bool => _) [(4, 7, 150, [.nilsl, .int .u32 0], some (6, [sln .u32 (wl a), .int .u32 ((rsN (decide (a < 0)) : Nat) : Int)])), (5, 8, 150, [.nilsl, .int .u32 0], some (7, [sln .u32 (wl b), .int .u32 ((rsN (decide (b < 0)) : Nat) : Int)]))] (fun _ => False) (sk := [(4, some 6), (5, some 7)]) mixC rfl rfl (by kernel_rfl) rfl (by kernel_rfl) rfl rfl (fun _ _ _ h => h.elim) ?_
  refine DChG.op rfl (fun _ => Zae rfl rfl rfl rfl rfl) (fun _ => rfl) rfl rfl ?_
  refine DChG.op rfl (fun _ => q_call rfl rfl (Zdo a ha)) (fun _ => rfl) rfl rfl ?_
  refine DChG.op rfl (fun _ => Zae rfl rfl rfl rfl rfl) (fun _ => rfl) rfl rfl ?_
  refine DChG.op rfl (fun _ => q_call rfl rfl (Zdo b hb)) (fun _ => rfl) rfl rfl ?_
  refine .al rfl rfl rfl rfl (fun _ => rfl) rfl rfl rfl ?_
  refine .al rfl rfl rfl rfl (fun _ => rfl) rfl rfl rfl ?_
  refine .sp (j := 4) rfl rfl rfl rfl rfl rfl rfl (fun _ => rfl) rfl rfl rfl (by kernel_rfl) ?_
  refine .sp (j := 5) rfl rfl rfl rfl rfl rfl rfl (fun _ => rfl) rfl rfl rfl (by kernel_rfl) ?_
  refine .nil (fun hG => AOps.fixed (as' := [(4, 7, 150, [sln .u32 (wl a), .int .u32 ((rsN (decide (a < 0)) : Nat) : Int)]), (5, 8, 150, [sln .u32 (wl b), .int .u32 ((rsN (decide (b < 0)) : Nat) : Int)])]) rfl ?_)
  refine AOps.nil (ARun.seq (ARun.seq (ARun.region ?_)))
  refine y_op rfl (q_fldS rfl rfl rfl (by decide)) ?_
  refine y_op rfl (q_load rfl rfl rfl rfl) ?_
  refine y_op rfl (Zad rfl rfl) ?_
  refine y_op rfl (q_fldS rfl rfl rfl (by decide)) ?_
  refine y_op rfl (q_load rfl rfl rfl rfl) ?_
  refine y_op rfl (Zad rfl rfl) ?_
  refine y_op rfl (q_maxR rfl rfl nmax) ?_
  refine y_op rfl (q_move rfl) ?_
  refine AOps.nil (ARun.block ?_)
  refine ARun.loopI (S := Nat × Heap) (fun σ : Nat × Heap => [(9, .any), (37, .any), (38, .any), (39, .any), (40, .any), (41, .any), (42, .any), (43, .any), (44, .any), (45, .any), (46, .any), (47, .any), (48, .any), (49, .any), (50, .any), (51, .any), (52, .any), (36, .int .i64 (σ.1 : Int))]) (fun σ : Nat × Heap => some ⟨[.bool false, .nilsl], ZcS, 1, true, none⟩ :: some ⟨[growD (3 + σ.2.length) (nts .u32 (boL op a b σ.1)), .int .u32 0], Zbh, 1, true, none⟩ :: mapO bitM :: growT σ.2 Zah (nts .u32 (boL op a b σ.1))) (fun σ : Nat × Heap => σ.1 ≤ max (wl a).length (wl b).length) (fun σ : Nat × Heap => max (wl a).length (wl b).length - σ.1) ((0, [])) ?_ ?_ ?_ ?_
  · exact Nat.zero_le _
  · (repeat' first | exact envLe_nil | apply envLe_any | apply envLe_same)
  · rfl
  rintro ⟨i, J⟩ hinv ih
  dsimp only at hinv ih ⊢
  have hnl : (nts .u32 (boL op a b i)).length = i := by rw [nts_length, boL_len]
  refine ARun.seq (ARun.region ?_)
  refine y_op rfl (q_int rfl rfl rfl) ?_
  refine AOps.nil (ARun.seq ?_)
  refine ARun.ite rfl (fun h => ?_) (fun h => ?_)
  · skip
    refine ARun.skip (ARun.seq (ARun.block (ARun.seq (ARun.region ?_))))
    refine y_op rfl (q_move rfl) ?_
    refine y_op rfl (Zaa rfl) ?_
    refine AOps.nil ?_
    refine ARun.drawnP 11 (fun _ => False) mixC rfl rfl (by kernel_rfl) (fun _ _ h => h.elim) ?_
    refine .op rfl (q_fldP rfl rfl rfl (by decide)) ?_
    refine .op rfl (Zak rfl rfl rfl rfl rfl) ?_
    refine .op rfl (q_move rfl) ?_
    refine .op rfl (Zae rfl rfl rfl rfl rfl) ?_
    refine .op rfl (q_move rfl) ?_
    refine .op rfl (q_call rfl rfl (Zoq (wl a) (decide (a < 0)) i)) ?_
    refine .op rfl (Zae rfl rfl rfl rfl rfl) ?_
    refine .op rfl (q_move rfl) ?_
    refine .op rfl (q_call rfl rfl (Zoq (wl b) (decide (b < 0)) i)) ?_
    refine .op rfl (Zor rfl rfl (hfc (elL (wl a) (decide (a < 0)) i) (elL (wl b) (decide (b < 0)) i) (elL_lt (U32_wl a)) (elL_lt (U32_wl b)))) ?_
    refine .op rfl (Zaq rfl rfl rfl rfl rfl rfl rfl rfl rfl rfl rfl (by decide) (by decide) rfl) ?_
    refine .nil (fun hG => ?_)
    refine Zos (dx := .int .u32 ((bo op (elL (wl a) (decide (a < 0)) i) (elL (wl b) (decide (b < 0)) i) : Nat) : Int)) rfl rfl rfl rfl rfl rfl rfl rfl rfl (by show (_ + 1) * 4 ≤ _; omega) (by omega) (fun J' => ?_)
    refine y_op rfl (q_fldP rfl rfl rfl (by decide)) ?_
    refine y_new rfl (Zai rfl rfl rfl (okCell_grow (B := [_, _, _]) rfl) rfl rfl (Nat.le_of_ble_eq_true rfl) rfl) ?_
    refine AOps.nil (ARun.inBlock (ARun.region ?_))
    refine y_op rfl (q_add rfl rfl (nadd1_i64 (by omega))) ?_
    refine y_op rfl (q_move rfl) ?_
    refine AOps.nil ?_
    rw [nts_snoc, ← boL_snocL]
    refine ARun.again (ih ((i + 1, J')) ?_ ?_) ?_ ?_
    · (dsimp only; omega)
    · (dsimp only; omega)
    · (repeat' first | exact envLe_nil | apply envLe_any | apply envLe_same)
    · rfl
  · skip
    obtain rfl : i = max (wl a).length (wl b).length := by omega
    have hsl : (sb op (decide (a < 0)) (decide (b < 0))) = sb op (decide (a < 0)) (decide (b < 0)) := rfl
    have hrs : PC C f [wr0, .int .u32 ((rsN (decide (a < 0)) : Nat) : Int), .int .u32 ((rsN (decide (b < 0)) : Nat) : Int)] (fun o => o = .ret (.int .u32 ((rsN (sb op (decide (a < 0)) (decide (b < 0))) : Nat) : Int))) := by
      have h := hfc (rsN (decide (a < 0))) (rsN (decide (b < 0))) (rsN_lt _) (rsN_lt _)
      rw [rsN_bo] at h
      exact h
    have hI : PC C Zbx [wrD (boL op a b (max (wl a).length (wl b).length)) (sb op (decide (a < 0)) (decide (b < 0)))] (fun o => (fitZ (bitZ op a b) ∧ o = .ret (intD (bitZ op a b))) ∨ ∃ p, (¬ fitZ (bitZ op a b) ∧ p = failW 2) ∧ o = .pan p) := by
      have h := Zll (boL op a b (max (wl a).length (wl b).length)) (U32_boL _ _ _ _) (sb op (decide (a < 0)) (decide (b < 0))) (by rw [boL_len]; omega)
      rw [ivZ_boL, bitN_wl rfl] at h
      refine h.mono fun o ho => ?_
      by_cases hfit : fitZ (bitZ op a b)
      · rw [fitO_t hfit] at ho; exact .inl ⟨hfit, ho⟩
      · rw [fitO_f hfit] at ho; exact .inr ⟨_, ⟨hfit, rfl⟩, ho⟩
    refine ARun.exit rfl ?_
    refine ARun.seq (ARun.region ?_)
    refine y_op rfl (q_move rfl) ?_
    refine y_op rfl (q_fldS rfl rfl rfl (by decide)) ?_
    refine y_op rfl (q_load rfl rfl rfl rfl) ?_
    refine y_op rfl (q_fldS rfl rfl rfl (by decide)) ?_
    refine y_op rfl (q_load rfl rfl rfl rfl) ?_
    refine y_op rfl (Zor rfl rfl hrs) ?_
    refine y_op rfl (q_fldP rfl rfl rfl (by decide)) ?_
    refine y_new rfl (Zai rfl rfl rfl rfl rfl rfl (Nat.le_of_ble_eq_true rfl) rfl) ?_
    refine AOps.nil (ARun.seq (ARun.region ?_))
    refine y_op rfl (Zaf rfl rfl rfl rfl rfl rfl) ?_
    refine AOps.growEndA 60 rfl (pures_nts _) (fun J' => ?_)
    rw [sln_len]
    refine y_gop rfl (g_call rfl rfl hI) (fun hg => ?_) (fun q hq => by obtain ⟨hq, rfl⟩ := hq; exact ⟨_, _, .same _, rfl, by rw [fitO_f hq]; rfl⟩)
    rw [fitO_t hg]
    refine y_op rfl (q_call rfl rfl (Zbw (bitZ op a b) hg)) ?_
    refine y_new rfl (Zac rfl rfl rfl rfl rfl rfl rfl rfl (Nat.le_of_ble_eq_true rfl) rfl) ?_
    refine AOps.nil ?_
    refine ARun.ret ?_
    refine ⟨_, _, _, ResR.cellA rfl rfl rfl rfl rfl rfl .nil, .cons (.same _) .nil, rfl, ?_⟩
    rfl
end Go.V
namespace Go.V
theorem h31 : (2 : Nat) ^ 31 = 2147483648 := by decide
theorem half_lt (x y k : Nat) (h : x < y) (r : Bool) : decide (((y * 2147483648 : Nat) : Int) ≤ ((x + y * rsN r : Nat) : Int)) = r := by
  cases r with
  | false =>
    have e : rsN false = 0 := rfl
    rw [e, Nat.mul_zero, Nat.add_zero]
    exact decide_eq_false (by omega)
  | true =>
    have e : rsN true = 4294967295 := rfl
    rw [e]
    exact decide_eq_true (by omega)
theorem wrapZ_abs {n : Nat} {X M : Int} {S : Bool} (hP : P2 n = M) (hm : X % M = X) (hc : decide (P2 (n - 1) ≤ X) = S) : wrapZ n true X = X - (bif S then M else 0) := by
  unfold wrapZ
  rw [hP, hm, hc, Bool.true_and]
  cases S
  · rw [cond_false, cond_false, Int.sub_zero]
  · rw [cond_true, cond_true]
theorem wrap_bit {op a b : Int} {m : Nat} (ha : inB m a) (hb : inB m b) : wrapZ (32 * (m + 1)) true ((bo op (tw (m + 1) a) (tw (m + 1) b) : Nat) : Int) = bitN op (m + 1) a b := by
  have hx := bo_ltB (op := op) (tw_lt (m + 1) a) (tw_lt (m + 1) b)
  have hy := bo_ltB (op := op) (tw_lt m a) (tw_lt m b)
  have e : bo op (tw (m + 1) a) (tw (m + 1) b) = bo op (tw m a) (tw m b) + B ^ m * rsN (sb op (decide (a < 0)) (decide (b < 0))) := by rw [ha.succ, hb.succ, bo_add (tw_lt ..) (tw_lt ..), rsN_bo]
  have hP : P2 (32 * (m + 1)) = ((B ^ (m + 1) : Nat) : Int) := by unfold P2; rw [← B_pow]
  have hQ : P2 (32 * (m + 1) - 1) = ((B ^ m * 2147483648 : Nat) : Int) := by
    unfold P2
    rw [show 32 * (m + 1) - 1 = 32 * m + 31 by omega, Nat.pow_add, ← B_pow, h31]
  have h3 : B ^ (m + 1) = B ^ m * 4294967296 := Nat.pow_succ ..
  have hc : decide (((B ^ m * 2147483648 : Nat) : Int) ≤ ((bo op (tw (m + 1) a) (tw (m + 1) b) : Nat) : Int)) = sb op (decide (a < 0)) (decide (b < 0)) := by
    rw [e]
    exact half_lt _ _ 0 hy _
  have hm : ((bo op (tw (m + 1) a) (tw (m + 1) b) : Nat) : Int) % ((B ^ (m + 1) : Nat) : Int) = ((bo op (tw (m + 1) a) (tw (m + 1) b) : Nat) : Int) := Int.emod_eq_of_lt (Int.natCast_nonneg _) (Int.ofNat_lt.2 hx)
  unfold bitN
  exact wrapZ_abs hP hm (by rw [hQ]; exact hc)
theorem wrap_tw (N : Nat) (a : Int) : (wrapZ (32 * N) false a).natAbs = tw N a := by
  have h := tw_cast N a
  have hP : P2 (32 * N) = ((B ^ N : Nat) : Int) := by unfold P2; rw [← B_pow]
  unfold wrapZ
  rw [Bool.false_and, cond_false, hP]
  omega
end Go.V
set_option maxHeartbeats 4000000
set_option maxRecDepth 100000
set_option synthInstance.maxSize 100000
set_option synthInstance.maxHeartbeats 2000000
namespace Go.V
open Go.RowKit Go.Proofs
theorem ln_P2 {n m : Nat} (h : n < 32 * m) : (lim (P2 n).natAbs).length ≤ m := by
  rw [Int.natAbs_natCast]; exact ln_two n m h
theorem Ze9 (n : Nat) (hn : n ≤ 40000) : PC C ZlU [.int .i64 (n : Int)] (fun o => o = .ret (intD (P2 n))) := by
  refine PC.run Zfq ZkD rfl ZkE rfl (rs := [.cell 2 25]) (by rw [ZkF]) (by simp only [List.length_cons, List.length_nil, Nat.reduceAdd, Nat.reduceSub, List.replicate_succ, List.replicate_zero, List.cons_append, List.nil_append]; exact rfl) ?_
  refine ARun.seq (ARun.region ?_)
  refine y_new rfl (Zag rfl rfl rfl rfl) ?_
  refine AOps.nil (ARun.seq (ARun.region ?_))
  refine y_op rfl (OpQ.cast (Zaq rfl rfl rfl rfl rfl rfl rfl rfl rfl rfl rfl (by decide) (by decide) rfl) numD_one) ?_
  refine y_op rfl (q_move rfl) ?_
  refine y_op rfl (q_call rfl rfl (ZjK 1 n (by rw [lim_one]; decide) (by omega))) ?_
  refine y_op rfl (q_call rfl rfl (Zca false (1 * 2 ^ n) (by rw [Nat.one_mul]; have := ln_two n 1251 (by omega); omega))) ?_
  refine y_new rfl (Zac rfl rfl rfl rfl rfl rfl rfl rfl (Nat.le_of_ble_eq_true rfl) rfl) ?_
  refine AOps.nil ?_
  refine ARun.ret ?_
  refine ⟨_, _, _, ResR.cellA rfl rfl rfl rfl rfl rfl .nil, .cons (.same _) .nil, rfl, ?_⟩
  rw [Nat.one_mul]; rfl
theorem bl_wrap {x : Int} {n : Nat} (h1 : 1 ≤ n) (h0 : 0 ≤ x) (hx : x < P2 n) : ((bl x.natAbs : Nat) : Int) = (n : Int) ↔ P2 (n - 1) ≤ x := by
  have h3 : bl x.natAbs ≤ n := bl_le.2 (by unfold P2 at hx; omega)
  have h4 : n - 1 < bl x.natAbs ↔ 2 ^ (n - 1) ≤ x.natAbs := bl_lt
  unfold P2 at *
  omega
theorem emod_nn {a : Int} {n : Nat} : 0 ≤ a % P2 n := Int.emod_nonneg a (by have := P2_pos n; omega)
theorem emod_lt' {a : Int} {n : Nat} : a % P2 n < P2 n := Int.emod_lt_of_pos a (P2_pos n)
theorem Zb8 (a : Int) (ha : (lim a.natAbs).length ≤ 16777214) (n : Nat) (h1 : 1 ≤ n) (hn : n ≤ 40000) (s : Bool) : PC C Zju [intD a, .int .i64 (n : Int), .bool s] (fun o => o = .ret (intD (wrapZ n s a))) := by
  have hP : (lim (P2 n).natAbs).length ≤ 1251 := ln_P2 (by omega)
  have hr0 := emod_nn (a := a) (n := n)
  have hr1 := emod_lt' (a := a) (n := n)
  have hrl : (lim (a % P2 n).natAbs).length ≤ 1251 := Nat.le_trans (ln_mono (by omega)) hP
  have hb := bl_wrap h1 hr0 hr1
  refine PC.run ZdD Zib rfl Zic rfl (rs := [.cell 6 25]) (by rw [Zid]) (by simp only [List.length_cons, List.length_nil, Nat.reduceAdd, Nat.reduceSub, List.replicate_succ, List.replicate_zero, List.cons_append, List.nil_append]; exact rfl) ?_
  refine ARun.seq (ARun.region ?_)
  refine y_op rfl (q_boxF rfl rfl rfl rfl) ?_
  refine y_new rfl (Zag rfl rfl rfl rfl) ?_
  refine AOps.nil (ARun.seq ?_)
  refine ARun.drawnF (n := 6) (fun S : Nat → Bool => _) [(4, 7, 25, [.bool false, .nilsl], some (5, [.bool (decide (a % P2 n < 0)), numD (a % P2 n).natAbs]))] (fun _ => False) (sk := [(4, some 5)]) mixC rfl rfl (by kernel_rfl) rfl (by kernel_rfl) rfl rfl (fun _ _ _ h => h.elim) ?_
  refine DChG.op rfl (fun _ => Zae rfl rfl rfl rfl rfl) (fun _ => rfl) rfl rfl ?_
  refine DChG.op rfl (fun _ => q_move rfl) (fun _ => rfl) rfl rfl ?_
  refine DChG.op rfl (fun _ => q_call rfl rfl (Ze9 n hn)) (fun _ => rfl) rfl rfl ?_
  refine DChG.op rfl (fun _ => q_call rfl rfl (Zon a (P2 n) ha (by omega) (P2_pos n))) (fun _ => rfl) rfl rfl ?_
  refine .al rfl rfl rfl rfl (fun _ => rfl) rfl rfl rfl ?_
  refine .sp (j := 4) rfl rfl rfl rfl rfl rfl rfl (fun _ => rfl) rfl rfl rfl (by kernel_rfl) ?_
  refine .nil (fun hG => AOps.fixed (as' := [(4, 7, 25, [.bool (decide (a % P2 n < 0)), numD (a % P2 n).natAbs])]) rfl ?_)
  refine AOps.nil (ARun.seq (ARun.seq (ARun.region ?_)))
  refine y_op rfl (q_move rfl) ?_
  refine y_op rfl (q_move rfl) ?_
  refine AOps.bool 13 rfl (fun g => ?_) (fun g => ?_)
  · skip
    obtain rfl : s = true := g
    refine y_op rfl (q_fldS rfl rfl rfl (by decide)) ?_
    refine y_op rfl (q_load rfl rfl rfl rfl) ?_
    refine y_op rfl (q_call rfl rfl (Zlh (a % P2 n).natAbs (by omega))) ?_
    refine y_op rfl (q_move rfl) ?_
    refine y_op rfl (q_int rfl rfl rfl) ?_
    refine y_op rfl (q_pick rfl rfl rfl rfl) ?_
    refine AOps.nil ?_
    refine ARun.ite rfl (fun g2 => ?_) (fun g2 => ?_)
    · skip
      have hw : wrapZ n true a = a % P2 n - P2 n := by unfold wrapZ; rw [decide_eq_true (hb.1 g2)]; rfl
      refine ARun.seq ?_
      refine ARun.drawnP 4 (fun _ => False) mixC rfl rfl (by kernel_rfl) (fun _ _ h => h.elim) ?_
      refine .op rfl (Zae rfl rfl rfl rfl rfl) ?_
      refine .op rfl (q_move rfl) ?_
      refine .op rfl (q_call rfl rfl (Ze9 n hn)) ?_
      refine .op rfl (q_call rfl rfl (Ze6 (a % P2 n) (P2 n) (by omega) (by omega))) ?_
      refine .nil (fun hG => ?_)
      refine y_new rfl (Zac rfl rfl rfl rfl rfl rfl rfl rfl (Nat.le_of_ble_eq_true rfl) rfl) ?_
      refine AOps.nil ?_
      refine ARun.ret ?_
      refine ⟨_, _, _, ResR.cellA rfl rfl rfl rfl rfl rfl .nil, .cons (.same _) .nil, rfl, ?_⟩
      rw [hw]; rfl
    · skip
      have hw : wrapZ n true a = a % P2 n := by unfold wrapZ; rw [decide_eq_false (fun h => g2 (hb.2 h))]; rfl
      refine ARun.skip (ARun.seq (ARun.region ?_))
      refine y_op rfl (Zae rfl rfl rfl rfl rfl) ?_
      refine y_new rfl (Zac rfl rfl rfl rfl rfl rfl rfl rfl (Nat.le_of_ble_eq_true rfl) rfl) ?_
      refine AOps.nil ?_
      refine ARun.ret ?_
      refine ⟨_, _, _, ResR.cellA rfl rfl rfl rfl rfl rfl .nil, .cons (.same _) .nil, rfl, ?_⟩
      rw [hw]; rfl
  · skip
    obtain rfl : s = false := g
    refine y_skip rfl ?_
    refine y_skip rfl ?_
    refine y_skip rfl ?_
    refine y_skip rfl ?_
    refine y_skip rfl ?_
    refine y_op rfl (q_pick rfl rfl rfl rfl) ?_
    refine AOps.nil ?_
    refine ARun.condF rfl ?_
    refine ARun.skip (ARun.seq (ARun.region ?_))
    refine y_op rfl (Zae rfl rfl rfl rfl rfl) ?_
    refine y_new rfl (Zac rfl rfl rfl rfl rfl rfl rfl rfl (Nat.le_of_ble_eq_true rfl) rfl) ?_
    refine AOps.nil ?_
    refine ARun.ret ?_
    refine ⟨_, _, _, ResR.cellA rfl rfl rfl rfl rfl rfl .nil, .cons (.same _) .nil, rfl, ?_⟩
    rfl
theorem Zot (d : Bool × List Nat) (hd : U32 d.2) (bits : Int) (s : Bool) : PC C Zmt [intA d.1 d.2, .int .i64 bits, .bool s] (fun o => o = .ret (gotR (resZ ([d].all okI) (wrapO bits s (valI d))))) := by
  refine PC.run ZgC Zlw rfl Zlx rfl (rs := [.cell 6 45]) (by rw [Zly]) (by simp only [List.length_cons, List.length_nil, Nat.reduceAdd, Nat.reduceSub, List.replicate_succ, List.replicate_zero, List.cons_append, List.nil_append]; exact rfl) ?_
  refine ARun.seq (ARun.region ?_)
  refine y_op rfl (q_boxF rfl rfl rfl rfl) ?_
  refine y_new rfl (Zag rfl rfl rfl rfl) ?_
  refine AOps.nil (ARun.seq (ARun.seq (ARun.region ?_)))
  refine y_op rfl (Zae rfl rfl rfl rfl rfl) ?_
  refine y_op rfl (q_call rfl rfl (Zcl d)) ?_
  refine y_op rfl (q_not rfl) ?_
  refine y_op rfl (q_move rfl) ?_
  refine AOps.bool 10 rfl (fun h => ?_) (fun h => ?_)
  · skip
    have h : okI d = false := by simpa using h
    refine y_skip rfl ?_
    refine y_skip rfl ?_
    refine y_op rfl (q_pick rfl rfl rfl rfl) ?_
    refine y_op rfl (q_move rfl) ?_
    refine y_skip rfl ?_
    refine y_skip rfl ?_
    refine y_op rfl (q_pick rfl rfl rfl rfl) ?_
    refine AOps.nil ?_
    refine ARun.condT rfl ?_
    refine ARun.seq (ARun.region ?_)
    refine y_op rfl (Zap rfl rfl rfl rfl rfl) ?_
    refine y_new rfl (Zac rfl rfl rfl rfl rfl rfl rfl rfl (Nat.le_of_ble_eq_true rfl) rfl) ?_
    refine AOps.nil ?_
    refine ARun.ret ?_
    refine ⟨_, _, _, ResR.cellA rfl rfl rfl rfl rfl rfl .nil, .cons (fz_got 1) .nil, rfl, ?_⟩
    simp only [List.all_cons, List.all_nil, Bool.and_true, h]
    rfl
  · skip
    have h : okI d = true := by simpa using h
    refine y_op rfl (q_move rfl) ?_
    refine y_op rfl (q_int rfl rfl rfl) ?_
    refine y_op rfl (q_pick rfl rfl rfl rfl) ?_
    refine y_op rfl (q_move rfl) ?_
    refine AOps.bool 14 rfl (fun g1 => ?_) (fun g1 => ?_)
    · skip
      have g1 := of_decide_eq_true g1
      refine y_skip rfl ?_
      refine y_skip rfl ?_
      refine y_op rfl (q_pick rfl rfl rfl rfl) ?_
      refine AOps.nil ?_
      refine ARun.condT rfl ?_
      refine ARun.seq (ARun.region ?_)
      refine y_op rfl (Zap rfl rfl rfl rfl rfl) ?_
      refine y_new rfl (Zac rfl rfl rfl rfl rfl rfl rfl rfl (Nat.le_of_ble_eq_true rfl) rfl) ?_
      refine AOps.nil ?_
      refine ARun.ret ?_
      refine ⟨_, _, _, ResR.cellA rfl rfl rfl rfl rfl rfl .nil, .cons (fz_got 1) .nil, rfl, ?_⟩
      have hO : wrapO bits s (valI d) = .inr 1 := by unfold wrapO; rw [if_neg (by omega)]
      simp only [List.all_cons, List.all_nil, Bool.and_true, h, hO]
      rfl
    · skip
      have g1 := of_decide_eq_false g1
      refine y_op rfl (q_move rfl) ?_
      refine y_op rfl (q_int rfl rfl rfl) ?_
      refine y_op rfl (q_pick rfl rfl rfl rfl) ?_
      refine AOps.nil ?_
      refine ARun.ite rfl (fun g2 => ?_) (fun g2 => ?_)
      · skip
        refine ARun.seq (ARun.region ?_)
        refine y_op rfl (Zap rfl rfl rfl rfl rfl) ?_
        refine y_new rfl (Zac rfl rfl rfl rfl rfl rfl rfl rfl (Nat.le_of_ble_eq_true rfl) rfl) ?_
        refine AOps.nil ?_
        refine ARun.ret ?_
        refine ⟨_, _, _, ResR.cellA rfl rfl rfl rfl rfl rfl .nil, .cons (fz_got 1) .nil, rfl, ?_⟩
        have hO : wrapO bits s (valI d) = .inr 1 := by unfold wrapO; rw [if_neg (by omega)]
        simp only [List.all_cons, List.all_nil, Bool.and_true, h, hO]
        rfl
      · skip
        obtain ⟨n, rfl⟩ : ∃ n : Nat, bits = (n : Int) := ⟨bits.toNat, by omega⟩
        obtain ⟨x, rfl, f1⟩ := okI_int hd h
        have hO : wrapO (n : Int) s x = .inl (wrapZ n s x) := by unfold wrapO; rw [if_pos (by omega)]; rfl
        refine ARun.skip (ARun.seq (ARun.region ?_))
        refine y_op rfl (Zae rfl rfl rfl rfl rfl) ?_
        refine y_op rfl (q_move rfl) ?_
        refine y_op rfl (q_move rfl) ?_
        refine y_op rfl (q_call rfl rfl (Zb8 x (by unfold fitZ at f1; omega) n (by omega) (by omega) s)) ?_
        refine y_op rfl (Zap rfl rfl rfl rfl rfl) ?_
        refine y_new rfl (Zac rfl rfl rfl rfl rfl rfl rfl rfl (Nat.le_of_ble_eq_true rfl) rfl) ?_
        refine AOps.nil ?_
        refine ARun.ret ?_
        refine ⟨_, _, _, ResR.cellA rfl rfl rfl rfl rfl rfl .nil, .cons (.same _) .nil, rfl, ?_⟩
        simp only [List.all_cons, List.all_nil, Bool.and_true, h, valI_int, hO]
        rfl
theorem ZoX (d : Bool × List Nat) (hd : U32 d.2) : PC C ZnC [intA d.1 d.2] (fun o => o = .ret (gotR (resZ ([d].all okI) (fitO (-valI d - 1))))) := by
  refine PC.run Ziy Zmv rfl Zmw rfl (rs := [.cell 2 45]) (by rw [Zmx]) (by simp only [List.length_cons, List.length_nil, Nat.reduceAdd, Nat.reduceSub, List.replicate_succ, List.replicate_zero, List.cons_append, List.nil_append]; exact rfl) ?_
  refine ARun.seq (ARun.region ?_)
  refine y_op rfl (q_boxF rfl rfl rfl rfl) ?_
  refine y_new rfl (Zag rfl rfl rfl rfl) ?_
  refine AOps.nil (ARun.seq (ARun.seq (ARun.region ?_)))
  refine y_op rfl (Zae rfl rfl rfl rfl rfl) ?_
  refine y_op rfl (q_call rfl rfl (Zcl d)) ?_
  refine y_op rfl (q_not rfl) ?_
  refine AOps.nil ?_
  refine ARun.cond rfl (fun h => ?_) (fun h => ?_)
  · skip
    have h : okI d = false := by simpa using h
    refine ARun.seq (ARun.region ?_)
    refine y_op rfl (Zap rfl rfl rfl rfl rfl) ?_
    refine y_new rfl (Zac rfl rfl rfl rfl rfl rfl rfl rfl (Nat.le_of_ble_eq_true rfl) rfl) ?_
    refine AOps.nil ?_
    refine ARun.ret ?_
    refine ⟨_, _, _, ResR.cellA rfl rfl rfl rfl rfl rfl .nil, .cons (fz_got 1) .nil, rfl, ?_⟩
    simp only [List.all_cons, List.all_nil, Bool.and_true, h]
    rfl
  · skip
    have h : okI d = true := by simpa using h
    obtain ⟨x, rfl, f1⟩ := okI_int hd h
    refine ARun.skip (ARun.seq (ARun.region ?_))
    refine y_op rfl (Zae rfl rfl rfl rfl rfl) ?_
    refine y_op rfl (q_call rfl rfl (Zew x (by unfold fitZ at f1; omega))) ?_
    refine y_op rfl (q_call rfl rfl (ZoU)) ?_
    refine y_op rfl (q_call rfl rfl (Ze6 (-x) 1 (by rw [Int.natAbs_neg]; unfold fitZ at f1; omega) (by show (lim 1).length ≤ _; rw [lim_one]; decide))) ?_
    refine y_op rfl (q_call rfl rfl (Zdn (-x - 1))) ?_
    refine y_new rfl (Zac rfl rfl rfl rfl rfl rfl rfl rfl (Nat.le_of_ble_eq_true rfl) rfl) ?_
    refine AOps.nil ?_
    refine ARun.ret ?_
    refine ⟨_, _, _, ResR.cellA rfl rfl rfl rfl rfl rfl .nil, .cons (.same _) .nil, rfl, ?_⟩
    simp only [List.all_cons, List.all_nil, Bool.and_true, h, valI_int]
    rfl
theorem sgn_P2 (a : Int) (n : Nat) : sgnd (decide (a < 0)) (a.natAbs * 2 ^ n) = a * P2 n := by
  unfold sgnd
  by_cases h : a < 0
  · rw [decide_eq_true h, cond_true, Int.natCast_mul, ← Int.neg_mul, show -(a.natAbs : Int) = a by omega]
  · rw [decide_eq_false h, cond_false, Int.natCast_mul, show (a.natAbs : Int) = a by omega]
theorem div_big {a : Int} {k k' : Nat} (fa : fitZ a) (h : 32768 ≤ k) (h' : 32768 ≤ k') : a / P2 k = a / P2 k' := by
  have key : ∀ k : Nat, 32768 ≤ k → a / P2 k = if a < 0 then -1 else 0 := by
    intro k hk
    have h1 := ln_lt a.natAbs
    have h2 := Nat.pow_le_pow_right B_pos (show (lim a.natAbs).length ≤ 1024 from fa)
    rw [B_pow 1024] at h2
    have h3 := Nat.pow_le_pow_right (n := 2) (by decide) (show 32 * 1024 ≤ k by omega)
    have h4 : (a.natAbs : Int) < P2 k := by unfold P2; omega
    split
    · rw [show a = (P2 k + a) + P2 k * (-1) by omega, Int.add_mul_ediv_left _ _ (by omega), Int.ediv_eq_zero_of_lt (by omega) (by omega), Int.zero_add]
    · exact Int.ediv_eq_zero_of_lt (by omega) (by omega)
  rw [key k h, key k' h']
theorem div_down {a b : Int} (h0 : 0 < b) : (divW (awayZ 2 (a.tdiv b) (a.tmod b) a b) a b).1 = a / b := by
  obtain ⟨e, lt, _, f2, _⟩ := divW_facts (a := a) (b := b) (by omega) 2
  generalize (divW (awayZ 2 (a.tdiv b) (a.tmod b) a b) a b).1 = q at *
  generalize (divW (awayZ 2 (a.tdiv b) (a.tmod b) a b) a b).2 = r at *
  have hr : 0 ≤ r := by
    by_cases h : r = 0
    · omega
    · have h2 := f2 rfl h
      rw [decide_eq_false (show ¬ b < 0 by omega)] at h2
      have := of_decide_eq_false h2
      omega
  rw [← e, Int.add_comm, Int.add_mul_ediv_right _ _ (by omega), Int.ediv_eq_zero_of_lt hr (by omega), Int.zero_add]
theorem Znw (d : Bool × List Nat) (hd : U32 d.2) (n : Int) (h1 : -9223372036854775808 ≤ n) (h2 : n ≤ 9223372036854775807) : PC C ZlC [intA d.1 d.2, .int .i64 n] (fun o => o = .ret (gotR (resZ ([d].all okI) (shiftO (valI d) n)))) := by
  refine PC.run Zfg Zj4 rfl Zj5 rfl (rs := [.cell 4 45]) (by rw [Zj6]) (by simp only [List.length_cons, List.length_nil, Nat.reduceAdd, Nat.reduceSub, List.replicate_succ, List.replicate_zero, List.cons_append, List.nil_append]; exact rfl) ?_
  refine ARun.seq (ARun.region ?_)
  refine y_op rfl (q_boxF rfl rfl rfl rfl) ?_
  refine y_new rfl (Zag rfl rfl rfl rfl) ?_
  refine AOps.nil (ARun.seq (ARun.seq (ARun.region ?_)))
  refine y_op rfl (Zae rfl rfl rfl rfl rfl) ?_
  refine y_op rfl (q_call rfl rfl (Zcl d)) ?_
  refine y_op rfl (q_not rfl) ?_
  refine AOps.nil ?_
  refine ARun.cond rfl (fun h => ?_) (fun h => ?_)
  · skip
    have h : okI d = false := by simpa using h
    refine ARun.seq (ARun.region ?_)
    refine y_op rfl (Zap rfl rfl rfl rfl rfl) ?_
    refine y_new rfl (Zac rfl rfl rfl rfl rfl rfl rfl rfl (Nat.le_of_ble_eq_true rfl) rfl) ?_
    refine AOps.nil ?_
    refine ARun.ret ?_
    refine ⟨_, _, _, ResR.cellA rfl rfl rfl rfl rfl rfl .nil, .cons (fz_got 1) .nil, rfl, ?_⟩
    simp only [List.all_cons, List.all_nil, Bool.and_true, h]
    rfl
  · skip
    have h : okI d = true := by simpa using h
    obtain ⟨x, rfl, f1⟩ := okI_int hd h
    simp only [List.all_cons, List.all_nil, Bool.and_true, h, valI_int]
    have fx : (lim x.natAbs).length ≤ 1024 := f1
    refine ARun.skip (ARun.seq (ARun.seq (ARun.region ?_)))
    refine y_op rfl (q_fldS rfl rfl rfl (by decide)) ?_
    refine y_op rfl (q_load rfl rfl rfl rfl) ?_
    refine y_op rfl (Zad rfl rfl) ?_
    refine y_op rfl (q_int rfl rfl rfl) ?_
    refine AOps.nil ?_
    refine ARun.ite rfl (fun h3 => ?_) (fun h3 => ?_)
    · skip
      have hx0 : x = 0 := by
        have := ln_pos (n := x.natAbs)
        omega
      subst hx0
      have hO : shiftO 0 n = .inl 0 := by
        unfold shiftO
        by_cases h : 0 ≤ n
        · rw [if_pos h, if_pos rfl]
        · rw [if_neg h, Int.zero_ediv]
      refine ARun.seq (ARun.region ?_)
      refine y_op rfl (Zae rfl rfl rfl rfl rfl) ?_
      refine y_op rfl (Zap rfl rfl rfl rfl rfl) ?_
      refine y_new rfl (Zac rfl rfl rfl rfl rfl rfl rfl rfl (Nat.le_of_ble_eq_true rfl) rfl) ?_
      refine AOps.nil ?_
      refine ARun.ret ?_
      refine ⟨_, _, _, ResR.cellA rfl rfl rfl rfl rfl rfl .nil, .cons (.same _) .nil, rfl, ?_⟩
      rw [hO]; rfl
    · skip
      have hx0 : x ≠ 0 := by
        rintro rfl
        apply h3
        show (((lim 0).length : Nat) : Int) = 0
        rw [lim_zero]; rfl
      refine ARun.skip (ARun.seq (ARun.seq (ARun.region ?_)))
      refine y_op rfl (q_move rfl) ?_
      refine y_op rfl (q_int rfl rfl rfl) ?_
      refine AOps.nil ?_
      refine ARun.ite rfl (fun h4 => ?_) (fun h4 => ?_)
      · skip
        obtain ⟨m, rfl⟩ : ∃ m : Nat, n = (m : Int) := ⟨n.toNat, by omega⟩
        refine ARun.seq (ARun.seq (ARun.region ?_))
        refine y_op rfl (q_move rfl) ?_
        refine y_op rfl (q_int rfl rfl rfl) ?_
        refine AOps.nil ?_
        refine ARun.ite rfl (fun h5 => ?_) (fun h5 => ?_)
        · skip
          have hO : shiftO x m = .inr 2 := by unfold shiftO; rw [if_pos h4, if_neg hx0, if_neg (by omega)]
          refine ARun.seq (ARun.region ?_)
          refine y_op rfl (Zap rfl rfl rfl rfl rfl) ?_
          refine y_new rfl (Zac rfl rfl rfl rfl rfl rfl rfl rfl (Nat.le_of_ble_eq_true rfl) rfl) ?_
          refine AOps.nil ?_
          refine ARun.ret ?_
          refine ⟨_, _, _, ResR.cellA rfl rfl rfl rfl rfl rfl .nil, .cons (fz_got 2) .nil, rfl, ?_⟩
          rw [hO]; rfl
        · skip
          have hO : shiftO x m = fitO (x * P2 m) := by unfold shiftO; rw [if_pos h4, if_neg hx0, if_pos (by omega)]; rfl
          have hl : (lim (x.natAbs * 2 ^ m)).length ≤ 2049 := by have := ln_mul x.natAbs (2 ^ m); have := ln_two m 1025 (by omega); omega
          have hOf := Zca (decide (x < 0)) (x.natAbs * 2 ^ m) (by omega)
          rw [sgn_P2 x m] at hOf
          refine ARun.skip (ARun.seq ?_)
          refine ARun.drawnP 8 (fun _ => False) mixC rfl rfl (by kernel_rfl) (fun _ _ h => h.elim) ?_
          refine .op rfl (q_fldS rfl rfl rfl (by decide)) ?_
          refine .op rfl (q_load rfl rfl rfl rfl) ?_
          refine .op rfl (q_fldS rfl rfl rfl (by decide)) ?_
          refine .op rfl (q_load rfl rfl rfl rfl) ?_
          refine .op rfl (q_move rfl) ?_
          refine .op rfl (q_call rfl rfl (ZjK x.natAbs m (by omega) (by omega))) ?_
          refine .op rfl (q_call rfl rfl (hOf)) ?_
          refine .op rfl (q_call rfl rfl (Zdn (x * P2 m))) ?_
          refine .nil (fun hG => ?_)
          refine y_new rfl (Zac rfl rfl rfl rfl rfl rfl rfl rfl (Nat.le_of_ble_eq_true rfl) rfl) ?_
          refine AOps.nil ?_
          refine ARun.ret ?_
          refine ⟨_, _, _, ResR.cellA rfl rfl rfl rfl rfl rfl .nil, .cons (.same _) .nil, rfl, ?_⟩
          rw [hO]; rfl
      · skip
        obtain ⟨kk, hkk⟩ : ∃ kk, kk = min (-n).toNat 40000 := ⟨_, rfl⟩
        have hO : shiftO x n = .inl (x / P2 kk) := by
          unfold shiftO
          rw [if_neg h4]
          by_cases h : (-n).toNat ≤ 33792
          · rw [show min (-n).toNat 33792 = kk by omega]
          · rw [div_big f1 (k := min (-n).toNat 33792) (k' := kk) (by omega) (by omega)]
        have hp := P2_pos kk
        refine ARun.skip (ARun.seq ?_)
        refine ARun.drawnP 9 (fun _ => False) mixC rfl rfl (by kernel_rfl) (fun _ _ h => h.elim) ?_
        refine .op rfl (Zae rfl rfl rfl rfl rfl) ?_
        refine .op rfl (q_move rfl) ?_
        refine .op rfl (q_maxR (r := -(kk : Int)) rfl rfl (by omega)) ?_
        refine .op rfl (q_neg rfl (show _ = (kk : Int) by rw [IntWalk.i64_in _ (by omega)]; omega)) ?_
        refine .op rfl (q_minR (r := (kk : Int)) rfl rfl (by omega)) ?_
        refine .op rfl (q_call rfl rfl (Ze9 kk (by omega))) ?_
        refine .op rfl (q_call rfl rfl (Zex x (P2 kk) 2 (by omega) (by have := ln_P2 (n := kk) (m := 1251) (by omega); omega) (by omega))) ?_
        refine .op rfl (Zmn Tryz.underlying32 rfl rfl rfl rfl rfl rfl) ?_
        refine .op rfl (Zap rfl rfl rfl rfl rfl) ?_
        refine .nil (fun hG => ?_)
        refine y_new rfl (Zac rfl rfl rfl rfl rfl rfl rfl rfl (Nat.le_of_ble_eq_true rfl) rfl) ?_
        refine AOps.nil ?_
        refine ARun.ret ?_
        refine ⟨_, _, _, ResR.cellA rfl rfl rfl rfl rfl rfl .nil, .cons (.same _) .nil, rfl, ?_⟩
        rw [div_down hp, hO]; rfl
theorem ZfA (l : List Nat) (i : Nat) : PC C Zjv [sln .u32 l, .int .i64 (i : Int)] (fun o => o = .ret (.int .u32 ((l.getD i 0 : Nat) : Int))) := by
  refine PC.run ZdE Zif rfl Zig rfl (rs := [.tmp 4]) (by rw [Zih]) (by simp only [List.length_cons, List.length_nil, Nat.reduceAdd, Nat.reduceSub, List.replicate_succ, List.replicate_zero, List.cons_append, List.nil_append]; exact rfl) ?_
  refine ARun.seq (ARun.region ?_)
  refine y_op rfl (Zaa rfl) ?_
  refine AOps.nil (ARun.seq (ARun.seq (ARun.region ?_)))
  refine y_op rfl (q_move rfl) ?_
  refine y_op rfl (q_move rfl) ?_
  refine y_op rfl (Zad rfl rfl) ?_
  refine y_op rfl (q_int rfl rfl rfl) ?_
  refine AOps.nil ?_
  refine ARun.ite rfl (fun h => ?_) (fun h => ?_)
  · skip
    refine ARun.seq (ARun.region ?_)
    refine y_op rfl (q_move rfl) ?_
    refine y_op rfl (q_move rfl) ?_
    refine y_op rfl (Zan (i := i) rfl rfl rfl rfl (by omega) (by omega) (nts_ne (by omega)) (drop_nat rfl)) ?_
    refine y_op rfl (q_load rfl rfl rfl (nts_load (i := i) (by omega))) ?_
    refine y_op rfl (Zaa rfl) ?_
    refine AOps.nil ?_
    refine ARun.ret ?_
    refine ⟨_, _, _, .tmp rfl .nil, .cons (.same _) .nil, rfl, ?_⟩
    rfl
  · skip
    have e : l.getD i 0 = 0 := by rw [List.getD_eq_getElem?_getD, List.getElem?_eq_none (by omega)]; rfl
    refine ARun.skip (ARun.seq (ARun.region ?_))
    refine y_op rfl (Zaa rfl) ?_
    refine AOps.nil ?_
    refine ARun.ret ?_
    refine ⟨_, _, _, .tmp rfl .nil, .cons (.same _) .nil, rfl, ?_⟩
    rw [e]; rfl
theorem ZjL (x y : Nat) (hx : x < 4294967296) (hy : y < 4294967296) (op : Int) : PC C Zie [.int .u32 (x : Int), .int .u32 (y : Int), .int .i64 op] (fun o => o = .ret (.int .u32 ((bo op x y : Nat) : Int))) := by
  refine PC.run Zc7 Zg6 rfl Zg7 rfl (rs := [.tmp 6]) (by rw [Zg8]) (by simp only [List.length_cons, List.length_nil, Nat.reduceAdd, Nat.reduceSub, List.replicate_succ, List.replicate_zero, List.cons_append, List.nil_append]; exact rfl) ?_
  refine ARun.seq (ARun.region ?_)
  refine y_op rfl (Zaa rfl) ?_
  refine AOps.nil (ARun.seq (ARun.seq (ARun.region ?_)))
  refine y_op rfl (q_move rfl) ?_
  refine AOps.nil (ARun.block (ARun.seq (ARun.region ?_)))
  refine y_op rfl (q_int rfl rfl rfl) ?_
  refine y_op rfl (Zaa rfl) ?_
  refine AOps.nil ?_
  refine ARun.cond rfl (fun h => ?_) (fun h => ?_)
  · skip
    have h : op = 1 := by simpa using h
    refine ARun.seq (ARun.region ?_)
    refine y_op rfl (q_move rfl) ?_
    refine y_op rfl (q_move rfl) ?_
    refine y_op rfl (q_andR rfl rfl (land_u32 hx hy)) ?_
    refine y_op rfl (Zaa rfl) ?_
    refine AOps.nil ?_
    refine ARun.ret ?_
    refine ⟨_, _, _, .tmp rfl .nil, .cons (.same _) .nil, rfl, ?_⟩
    rw [bo, if_pos h]; rfl
  · skip
    have h : ¬ op = 1 := by simpa using h
    refine ARun.seq (ARun.region ?_)
    refine y_op rfl (q_int rfl rfl rfl) ?_
    refine y_op rfl (Zaa rfl) ?_
    refine AOps.nil ?_
    refine ARun.cond rfl (fun h2 => ?_) (fun h2 => ?_)
    · skip
      have h2 : op = 2 := by simpa using h2
      refine ARun.seq (ARun.region ?_)
      refine y_op rfl (q_move rfl) ?_
      refine y_op rfl (q_move rfl) ?_
      refine y_op rfl (q_orR rfl rfl (lor_u32 hx hy)) ?_
      refine y_op rfl (Zaa rfl) ?_
      refine AOps.nil ?_
      refine ARun.ret ?_
      refine ⟨_, _, _, .tmp rfl .nil, .cons (.same _) .nil, rfl, ?_⟩
      rw [bo, if_neg h, if_pos h2]; rfl
    · skip
      have h2 : ¬ op = 2 := by simpa using h2
      refine ARun.skip (ARun.inBlock (ARun.seq (ARun.region ?_)))
      refine y_op rfl (q_move rfl) ?_
      refine y_op rfl (q_move rfl) ?_
      refine y_op rfl (q_xorR rfl rfl (lxor_u32 hx hy)) ?_
      refine y_op rfl (Zaa rfl) ?_
      refine AOps.nil ?_
      refine ARun.ret ?_
      refine ⟨_, _, _, .tmp rfl .nil, .cons (.same _) .nil, rfl, ?_⟩
      rw [bo, if_neg h, if_neg h2]; rfl
theorem Zou (d1 d2 : Bool × List Nat) (h1 : U32 d1.2) (h2 : U32 d2.2) (op : Int) : PC C Zmu [intA d1.1 d1.2, intA d2.1 d2.2, .int .i64 op] (fun o => o = .ret (gotR (resZ ([d1, d2].all okI) (bitO op (valI d1) (valI d2))))) := by
  refine PC.run ZgD Zlz rfl ZlA rfl (rs := [.cell 6 45]) (by rw [ZlB]) (by simp only [List.length_cons, List.length_nil, Nat.reduceAdd, Nat.reduceSub, List.replicate_succ, List.replicate_zero, List.cons_append, List.nil_append]; exact rfl) ?_
  refine ARun.seq (ARun.region ?_)
  refine y_op rfl (q_boxF rfl rfl rfl rfl) ?_
  refine y_op rfl (q_boxF rfl rfl rfl rfl) ?_
  refine y_new rfl (Zag rfl rfl rfl rfl) ?_
  refine AOps.nil (ARun.seq (ARun.seq (ARun.region ?_)))
  refine y_op rfl (Zae rfl rfl rfl rfl rfl) ?_
  refine y_op rfl (q_call rfl rfl (Zcl d1)) ?_
  refine y_op rfl (q_not rfl) ?_
  refine y_op rfl (q_move rfl) ?_
  refine AOps.bool 15 rfl (fun g1 => ?_) (fun g1 => ?_)
  · skip
    have g1 : okI d1 = false := by simpa using g1
    refine y_skip rfl ?_
    refine y_skip rfl ?_
    refine y_skip rfl ?_
    refine y_op rfl (q_pick rfl rfl rfl rfl) ?_
    refine y_op rfl (q_move rfl) ?_
    refine y_skip rfl ?_
    refine y_skip rfl ?_
    refine y_op rfl (q_pick rfl rfl rfl rfl) ?_
    refine y_op rfl (q_move rfl) ?_
    refine y_skip rfl ?_
    refine y_skip rfl ?_
    refine y_op rfl (q_pick rfl rfl rfl rfl) ?_
    refine AOps.nil ?_
    refine ARun.condT rfl ?_
    refine ARun.seq (ARun.region ?_)
    refine y_op rfl (Zap rfl rfl rfl rfl rfl) ?_
    refine y_new rfl (Zac rfl rfl rfl rfl rfl rfl rfl rfl (Nat.le_of_ble_eq_true rfl) rfl) ?_
    refine AOps.nil ?_
    refine ARun.ret ?_
    refine ⟨_, _, _, ResR.cellA rfl rfl rfl rfl rfl rfl .nil, .cons (fz_got 1) .nil, rfl, ?_⟩
    simp only [List.all_cons, List.all_nil, Bool.and_true, g1, Bool.false_and]
    rfl
  · skip
    have g1 : okI d1 = true := by simpa using g1
    refine y_op rfl (Zae rfl rfl rfl rfl rfl) ?_
    refine y_op rfl (q_call rfl rfl (Zcl d2)) ?_
    refine y_op rfl (q_not rfl) ?_
    refine y_op rfl (q_pick rfl rfl rfl rfl) ?_
    refine y_op rfl (q_move rfl) ?_
    refine AOps.bool 20 rfl (fun g2 => ?_) (fun g2 => ?_)
    · skip
      have g2 : okI d2 = false := by simpa using g2
      refine y_skip rfl ?_
      refine y_skip rfl ?_
      refine y_op rfl (q_pick rfl rfl rfl rfl) ?_
      refine y_op rfl (q_move rfl) ?_
      refine y_skip rfl ?_
      refine y_skip rfl ?_
      refine y_op rfl (q_pick rfl rfl rfl rfl) ?_
      refine AOps.nil ?_
      refine ARun.condT rfl ?_
      refine ARun.seq (ARun.region ?_)
      refine y_op rfl (Zap rfl rfl rfl rfl rfl) ?_
      refine y_new rfl (Zac rfl rfl rfl rfl rfl rfl rfl rfl (Nat.le_of_ble_eq_true rfl) rfl) ?_
      refine AOps.nil ?_
      refine ARun.ret ?_
      refine ⟨_, _, _, ResR.cellA rfl rfl rfl rfl rfl rfl .nil, .cons (fz_got 1) .nil, rfl, ?_⟩
      simp only [List.all_cons, List.all_nil, Bool.and_true, g1, g2, Bool.true_and]
      rfl
    · skip
      have g2 : okI d2 = true := by simpa using g2
      obtain ⟨a, rfl, fa⟩ := okI_int h1 g1
      obtain ⟨b, rfl, fb⟩ := okI_int h2 g2
      simp only [List.all_cons, List.all_nil, Bool.and_true, g1, g2, valI_int]
      refine y_op rfl (q_move rfl) ?_
      refine y_op rfl (q_int rfl rfl rfl) ?_
      refine y_op rfl (q_pick rfl rfl rfl rfl) ?_
      refine y_op rfl (q_move rfl) ?_
      refine AOps.bool 24 rfl (fun g3 => ?_) (fun g3 => ?_)
      · skip
        have g3 := of_decide_eq_true g3
        have hO : bitO op a b = .inr 1 := by unfold bitO; rw [if_neg (by omega)]
        refine y_skip rfl ?_
        refine y_skip rfl ?_
        refine y_op rfl (q_pick rfl rfl rfl rfl) ?_
        refine AOps.nil ?_
        refine ARun.condT rfl ?_
        refine ARun.seq (ARun.region ?_)
        refine y_op rfl (Zap rfl rfl rfl rfl rfl) ?_
        refine y_new rfl (Zac rfl rfl rfl rfl rfl rfl rfl rfl (Nat.le_of_ble_eq_true rfl) rfl) ?_
        refine AOps.nil ?_
        refine ARun.ret ?_
        refine ⟨_, _, _, ResR.cellA rfl rfl rfl rfl rfl rfl .nil, .cons (fz_got 1) .nil, rfl, ?_⟩
        rw [hO]; rfl
      · skip
        have g3 := of_decide_eq_false g3
        refine y_op rfl (q_move rfl) ?_
        refine y_op rfl (q_int rfl rfl rfl) ?_
        refine y_op rfl (q_pick rfl rfl rfl rfl) ?_
        refine AOps.nil ?_
        refine ARun.ite rfl (fun g4 => ?_) (fun g4 => ?_)
        · skip
          have hO : bitO op a b = .inr 1 := by unfold bitO; rw [if_neg (by omega)]
          refine ARun.seq (ARun.region ?_)
          refine y_op rfl (Zap rfl rfl rfl rfl rfl) ?_
          refine y_new rfl (Zac rfl rfl rfl rfl rfl rfl rfl rfl (Nat.le_of_ble_eq_true rfl) rfl) ?_
          refine AOps.nil ?_
          refine ARun.ret ?_
          refine ⟨_, _, _, ResR.cellA rfl rfl rfl rfl rfl rfl .nil, .cons (fz_got 1) .nil, rfl, ?_⟩
          rw [hO]; rfl
        · skip
          have hO : bitO op a b = fitO (bitZ op a b) := by unfold bitO; rw [if_pos (by omega)]
          have fa' : (lim a.natAbs).length ≤ 1024 := fa
          have fb' : (lim b.natAbs).length ≤ 1024 := fb
          obtain ⟨N, hN⟩ : ∃ N, N = max (lim a.natAbs).length (lim b.natAbs).length + 1 := ⟨_, rfl⟩
          refine ARun.skip (ARun.seq (ARun.region ?_))
          refine y_op rfl (q_fldS rfl rfl rfl (by decide)) ?_
          refine y_op rfl (q_load rfl rfl rfl rfl) ?_
          refine y_op rfl (Zad rfl rfl) ?_
          refine y_op rfl (q_fldS rfl rfl rfl (by decide)) ?_
          refine y_op rfl (q_load rfl rfl rfl rfl) ?_
          refine y_op rfl (Zad rfl rfl) ?_
          refine y_op rfl (q_maxR rfl rfl nmax) ?_
          refine y_op rfl (q_add rfl rfl (show _ = (N : Int) by rw [IntWalk.i64_in _ (by omega)]; omega)) ?_
          refine y_op rfl (Zaa rfl) ?_
          refine AOps.nil (ARun.seq (ARun.region ?_))
          refine y_op rfl (Zae rfl rfl rfl rfl rfl) ?_
          refine y_op rfl (q_move rfl) ?_
          refine y_op rfl (q_mul rfl rfl (show _ = ((32 * N : Nat) : Int) by rw [IntWalk.i64_in _ (by omega)]; omega)) ?_
          refine y_op rfl (q_call rfl rfl (Zb8 a (by omega) (32 * N) (by omega) (by omega) false)) ?_
          refine ZbL rfl rfl rfl rfl rfl rfl rfl rfl rfl rfl rfl ?_
          refine AOps.nil (ARun.seq (ARun.region ?_))
          refine y_op rfl (Zae rfl rfl rfl rfl rfl) ?_
          refine y_op rfl (q_move rfl) ?_
          refine y_op rfl (q_mul rfl rfl (show _ = ((32 * N : Nat) : Int) by rw [IntWalk.i64_in _ (by omega)]; omega)) ?_
          refine y_op rfl (q_call rfl rfl (Zb8 b (by omega) (32 * N) (by omega) (by omega) false)) ?_
          refine ZbL rfl rfl rfl rfl rfl rfl rfl rfl rfl rfl rfl ?_
          refine AOps.nil (ARun.seq (ARun.region ?_))
          refine y_op rfl (Zaa rfl) ?_
          refine AOps.nil (ARun.seq (ARun.seq (ARun.region ?_)))
          refine y_op rfl (Zaa rfl) ?_
          refine AOps.nil (ARun.block ?_)
          refine ARun.loopI (S := Nat × Heap) (fun σ : Nat × Heap => [(45, .any), (46, .any), (47, .any), (48, .any), (49, .any), (50, .any), (51, .any), (52, .any), (53, .any), (54, .any), (55, .any), (56, .any), (57, .any), (58, .any), (59, .any), (60, .any), (61, .any), (62, .any), (10, growD (1 + σ.2.length) (nts .u32 (boL op a b σ.1))), (11, .int .i64 (σ.1 : Int))]) (fun σ : Nat × Heap => some ⟨[.bool false, .nilsl, .int .i64 0], ZdX, 1, true, none⟩ :: growT σ.2 Zah (nts .u32 (boL op a b σ.1))) (fun σ : Nat × Heap => σ.1 ≤ N) (fun σ : Nat × Heap => N - σ.1) ((0, [])) ?_ ?_ ?_ ?_
          · exact Nat.zero_le _
          · (repeat' first | exact envLe_nil | apply envLe_any | apply envLe_same)
          · rfl
          rintro ⟨i, J⟩ hinv ih
          dsimp only at hinv ih ⊢
          have hnl : (nts .u32 (boL op a b i)).length = i := by rw [nts_length, boL_len]
          refine ARun.seq (ARun.seq (ARun.region ?_))
          refine y_op rfl (q_move rfl) ?_
          refine y_op rfl (q_move rfl) ?_
          refine y_op rfl (q_int rfl rfl rfl) ?_
          refine AOps.nil ?_
          refine ARun.ite rfl (fun h => ?_) (fun h => ?_)
          · skip
            have hi : i < N := by omega
            have eA : (lim (wrapZ (32 * N) false a).natAbs).getD i 0 = elW a i := by rw [lim_get, wrap_tw, ← elW_eq a hi]
            have eB : (lim (wrapZ (32 * N) false b).natAbs).getD i 0 = elW b i := by rw [lim_get, wrap_tw, ← elW_eq b hi]
            have lA : elW a i < 4294967296 := by rw [elW_eq a hi]; exact dig_lt _ _
            have lB : elW b i < 4294967296 := by rw [elW_eq b hi]; exact dig_lt _ _
            refine ARun.skip (ARun.seq (ARun.block ?_))
            refine ARun.drawnP 12 (fun _ => False) mixC rfl rfl (by kernel_rfl) (fun _ _ h => h.elim) ?_
            refine .op rfl (q_move rfl) ?_
            refine .op rfl (q_fldS rfl rfl rfl (by decide)) ?_
            refine .op rfl (q_load rfl rfl rfl rfl) ?_
            refine .op rfl (q_move rfl) ?_
            refine .op rfl (q_call rfl rfl ((ZfA (lim (wrapZ (32 * N) false a).natAbs) i).mono fun o ho => by rw [ho, eA])) ?_
            refine .op rfl (q_fldS rfl rfl rfl (by decide)) ?_
            refine .op rfl (q_load rfl rfl rfl rfl) ?_
            refine .op rfl (q_move rfl) ?_
            refine .op rfl (q_call rfl rfl ((ZfA (lim (wrapZ (32 * N) false b).natAbs) i).mono fun o ho => by rw [ho, eB])) ?_
            refine .op rfl (q_move rfl) ?_
            refine .op rfl (q_call rfl rfl (ZjL (elW a i) (elW b i) lA lB op)) ?_
            refine .op rfl (Zaq rfl rfl rfl rfl rfl rfl rfl rfl rfl rfl rfl (by decide) (by decide) rfl) ?_
            refine .nil (fun hG => ?_)
            refine Zos (dx := .int .u32 ((bo op (elW a i) (elW b i) : Nat) : Int)) rfl rfl rfl rfl rfl rfl rfl rfl rfl (by show (_ + 1) * 4 ≤ _; omega) (by omega) (fun J' => ?_)
            refine y_op rfl (Zaa rfl) ?_
            refine AOps.nil (ARun.inBlock (ARun.region ?_))
            refine y_op rfl (q_move rfl) ?_
            refine y_op rfl (q_add rfl rfl (nadd1_i64 (by omega))) ?_
            refine y_op rfl (Zaa rfl) ?_
            refine AOps.nil ?_
            rw [nts_snoc, ← boL_snoc]
            refine ARun.again (ih ((i + 1, J')) ?_ ?_) ?_ ?_
            · (dsimp only; omega)
            · (dsimp only; omega)
            · (repeat' first | exact envLe_nil | apply envLe_any | apply envLe_same)
            · rfl
          · skip
            obtain rfl : i = N := by omega
            obtain ⟨m, rfl⟩ : ∃ m, i = m + 1 := ⟨i - 1, by omega⟩
            refine ARun.growEnd 10 rfl (pures_nts _) (fun J' => ?_)
            rw [sln_len]
            have hw : wrapZ (32 * (m + 1)) true (sgnd false (val (boL op a b (m + 1)))) = bitZ op a b := by
              rw [boL_val]
              exact (wrap_bit ((inB.of (Nat.le_refl _)).mono (by omega)) ((inB.of (Nat.le_refl _)).mono (by omega))).trans (bitZ_eq (by unfold lnZ'; omega))
            have hvl : (lim (val (boL op a b (m + 1)))).length ≤ 1025 := Nat.le_trans (ln_le (val_lt (U32_boL op a b (m + 1)))) (by rw [boL_len]; omega)
            have hOf : PC C Zji [.bool false, sln .u32 (boL op a b (m + 1))] (fun o => o = .ret (intD (sgnd false (val (boL op a b (m + 1)))))) := (Zmk false (boL op a b (m + 1)) (U32_boL _ _ _ _) (by rw [boL_len]; omega)).mono fun o ho => by rw [ho, intD, sgnd_abs, sgnd_neg]; rfl
            have hW := Zb8 (sgnd false (val (boL op a b (m + 1)))) (by rw [sgnd_abs]; omega) (32 * (m + 1)) (by omega) (by omega) true
            rw [hw] at hW
            refine ARun.exit rfl ?_
            refine ARun.seq (ARun.region ?_)
            refine y_op rfl (q_move rfl) ?_
            refine y_op rfl (q_call rfl rfl (hOf)) ?_
            refine y_op rfl (q_move rfl) ?_
            refine y_op rfl (q_mul rfl rfl (show _ = ((32 * (m + 1) : Nat) : Int) by rw [IntWalk.i64_in _ (by omega)]; omega)) ?_
            refine y_op rfl (q_call rfl rfl (hW)) ?_
            refine y_op rfl (q_call rfl rfl (Zdn (bitZ op a b))) ?_
            refine y_new rfl (Zac rfl rfl rfl rfl rfl rfl rfl rfl (Nat.le_of_ble_eq_true rfl) rfl) ?_
            refine AOps.nil ?_
            refine ARun.ret ?_
            refine ⟨_, _, _, ResR.cellA rfl rfl rfl rfl rfl rfl .nil, .cons (.same _) .nil, rfl, ?_⟩
            rw [hO]; rfl
end Go.V
set_option maxHeartbeats 8000000
set_option maxRecDepth 100000
set_option synthInstance.maxSize 100000
set_option synthInstance.maxHeartbeats 2000000
namespace Go.V
open Go.RowKit Go.Proofs
end Go.V
set_option maxHeartbeats 4000000
set_option maxRecDepth 100000
set_option synthInstance.maxSize 100000
set_option synthInstance.maxHeartbeats 2000000
namespace Go.V
open Go.RowKit Go.Proofs
theorem Zov (d1 d2 : Bool × List Nat) (h1 : U32 d1.2) (h2 : U32 d2.2) (op : Int) : PC C Zj0 [intA d1.1 d1.2, intA d2.1 d2.2, .int .i64 op] (fun o => o = .ret (.tup [intD (resZ ([d1, d2].all okI) (bitO op (valI d1) (valI d2))).1, .int .i64 (resZ ([d1, d2].all okI) (bitO op (valI d1) (valI d2))).2])) := by
  refine PC.run Zd3 Zi8 rfl Zi9 rfl (rs := [.cell 6 25, .tmp 7]) (by rw [Zja]) (by simp only [List.length_cons, List.length_nil, Nat.reduceAdd, Nat.reduceSub, List.replicate_succ, List.replicate_zero, List.cons_append, List.nil_append]; exact rfl) ?_
  refine ARun.seq (ARun.region ?_)
  refine y_op rfl (q_boxF rfl rfl rfl rfl) ?_
  refine y_op rfl (q_boxF rfl rfl rfl rfl) ?_
  refine y_op rfl (q_boxF rfl rfl rfl rfl) ?_
  refine y_new rfl (Zag rfl rfl rfl rfl) ?_
  refine y_op rfl (Zaa rfl) ?_
  refine AOps.nil (ARun.seq (ARun.region ?_))
  refine y_op rfl (Zdp rfl) ?_
  refine y_op rfl (Zae rfl rfl rfl rfl rfl) ?_
  refine y_op rfl (Zae rfl rfl rfl rfl rfl) ?_
  refine y_op rfl (Zaq rfl rfl rfl rfl rfl rfl rfl rfl rfl rfl rfl (by decide) (by decide) rfl) ?_
  refine y_op rfl (q_call rfl rfl (Zb7 [d1, d2] 2 rfl Zb9 [.sptr [.int .i64 op], .sptr [.bool d1.1, sln .u32 d1.2], .sptr [.bool d2.1, sln .u32 d2.2]] rfl (bitO op (valI d1) (valI d2)) (fun h => by obtain ⟨a, b, rfl, fa, rfl, fb⟩ := okI2 h1 h2 h; rw [valI_int, valI_int]; exact (Decidable.em (1 ≤ op ∧ op ≤ 3)).elim (Zln op a b fa fb) (Zlm op a b)))) ?_
  refine y_op rfl (Zab rfl rfl) ?_
  refine y_op rfl (Zab rfl rfl) ?_
  refine y_new rfl (Zac rfl rfl rfl rfl rfl rfl rfl rfl (Nat.le_of_ble_eq_true rfl) rfl) ?_
  refine y_op rfl (Zaa rfl) ?_
  refine AOps.nil ?_
  refine ARun.ret ?_
  refine ⟨_, _, _, ResR.cellA rfl rfl rfl rfl rfl rfl (.tmp rfl .nil), .cons (.same _) (.cons (.same _) .nil), rfl, ?_⟩
  rfl
theorem Znx (a : Int) (ha : fitZ a) : PC C Zei [capZ a] (fun o => o = outZ (fitO (-a - 1))) := by
  have hs : PC C ZdJ [intD (-a), intD (-1)] (fun o => (fitZ (-a + -1) ∧ o = .ret (intD (-a + -1))) ∨ ∃ p, (¬ fitZ (-a + -1) ∧ p = failW 2) ∧ o = .pan p) :=
    (Zbv (-a) (-1) (fitZ_neg ha) (fit_small (by decide))).mono fun o ho => ho.imp id (fun ⟨x, y⟩ => ⟨_, ⟨x, rfl⟩, y⟩)
  rw [Int.sub_eq_add_neg]
  refine PC.run ZdC Zh8 rfl Zh9 rfl (rs := [.cell 1 25]) (by rw [Zia]) (by simp only [List.length_cons, List.length_nil, Nat.reduceAdd, Nat.reduceSub, List.replicate_succ, List.replicate_zero, List.cons_append, List.nil_append]; exact rfl) ?_
  refine ARun.seq (ARun.region ?_)
  refine y_new rfl (Zag rfl rfl rfl rfl) ?_
  refine AOps.nil (ARun.seq (ARun.region ?_))
  refine y_op rfl (Zae rfl rfl rfl rfl rfl) ?_
  refine y_op rfl (q_call rfl rfl (ZbE a)) ?_
  refine y_op rfl (q_call rfl rfl (Zas (-1) (by decide) (by decide))) ?_
  refine y_gop rfl (g_call rfl rfl hs) (fun hg => ?_) (fun q hq => by obtain ⟨hq, rfl⟩ := hq; exact ⟨_, _, .same _, rfl, by rw [fitO_f hq]; rfl⟩)
  rw [fitO_t hg]
  refine y_op rfl (q_call rfl rfl (Zbw (-a + -1) hg)) ?_
  refine y_new rfl (Zac rfl rfl rfl rfl rfl rfl rfl rfl (Nat.le_of_ble_eq_true rfl) rfl) ?_
  refine AOps.nil ?_
  refine ARun.ret ?_
  refine ⟨_, _, _, ResR.cellA rfl rfl rfl rfl rfl rfl .nil, .cons (.same _) .nil, rfl, ?_⟩
  rfl
theorem ZoY (d : Bool × List Nat) (hd : U32 d.2) : PC C Zlv [intA d.1 d.2] (fun o => o = .ret (.tup [intD (resZ ([d].all okI) (fitO (-valI d - 1))).1, .int .i64 (resZ ([d].all okI) (fitO (-valI d - 1))).2])) := by
  refine PC.run Zff Zj1 rfl Zj2 rfl (rs := [.cell 2 25, .tmp 3]) (by rw [Zj3]) (by simp only [List.length_cons, List.length_nil, Nat.reduceAdd, Nat.reduceSub, List.replicate_succ, List.replicate_zero, List.cons_append, List.nil_append]; exact rfl) ?_
  refine ARun.seq (ARun.region ?_)
  refine y_op rfl (q_boxF rfl rfl rfl rfl) ?_
  refine y_new rfl (Zag rfl rfl rfl rfl) ?_
  refine y_op rfl (Zaa rfl) ?_
  refine AOps.nil (ARun.seq (ARun.region ?_))
  refine y_op rfl (Zdp rfl) ?_
  refine y_op rfl (Zae rfl rfl rfl rfl rfl) ?_
  refine y_op rfl (Zaq rfl rfl rfl rfl rfl rfl rfl rfl rfl rfl rfl (by decide) (by decide) rfl) ?_
  refine y_op rfl (q_call rfl rfl (Zb7 [d] 1 rfl Zei [.sptr [.bool d.1, sln .u32 d.2]] rfl (fitO (-valI d - 1)) (fun h => by obtain ⟨x, rfl, f1⟩ := okI_int hd (by simpa using h); rw [valI_int]; exact Znx x f1))) ?_
  refine y_op rfl (Zab rfl rfl) ?_
  refine y_op rfl (Zab rfl rfl) ?_
  refine y_new rfl (Zac rfl rfl rfl rfl rfl rfl rfl rfl (Nat.le_of_ble_eq_true rfl) rfl) ?_
  refine y_op rfl (Zaa rfl) ?_
  refine AOps.nil ?_
  refine ARun.ret ?_
  refine ⟨_, _, _, ResR.cellA rfl rfl rfl rfl rfl rfl (.tmp rfl .nil), .cons (.same _) (.cons (.same _) .nil), rfl, ?_⟩
  rfl
theorem Zow (d1 d2 : Bool × List Nat) (h1 : U32 d1.2) (h2 : U32 d2.2) (bits : Int) (s : Bool) (op n : Int) (hn1 : -9223372036854775808 ≤ n) (hn2 : n ≤ 9223372036854775807) : PC C Zey [intA d1.1 d1.2, intA d2.1 d2.2, .int .i64 bits, .bool s, .int .i64 op, .int .i64 n] (fun o => o = .ret (.bool true)) := by
  refine PC.run Zb1 ZdY rfl ZdZ rfl (rs := [.tmp 12]) (by rw [Zd0]) (by simp only [List.length_cons, List.length_nil, Nat.reduceAdd, Nat.reduceSub, List.replicate_succ, List.replicate_zero, List.cons_append, List.nil_append]; exact rfl) ?_
  refine ARun.seq (ARun.region ?_)
  refine y_op rfl (q_boxF rfl rfl rfl rfl) ?_
  refine y_op rfl (q_boxF rfl rfl rfl rfl) ?_
  refine y_op rfl (Zaa rfl) ?_
  refine AOps.nil (ARun.seq (ARun.seq (ARun.region ?_)))
  refine y_op rfl (Zae rfl rfl rfl rfl rfl) ?_
  refine y_op rfl (q_call rfl rfl (ZiT d1 40)) ?_
  refine y_op rfl (q_not rfl) ?_
  refine y_op rfl (q_move rfl) ?_
  refine AOps.bool 24 rfl (fun g1 => ?_) (fun g1 => ?_)
  · skip
    refine y_skip rfl ?_
    refine y_skip rfl ?_
    refine y_skip rfl ?_
    refine y_op rfl (q_pick rfl rfl rfl rfl) ?_
    refine AOps.nil ?_
    refine ARun.condT rfl ?_
    refine ARun.seq (ARun.region ?_)
    refine y_op rfl (q_call rfl rfl (Ze7)) ?_
    refine y_op rfl (Zaa rfl) ?_
    refine AOps.nil ?_
    refine ARun.ret ?_
    refine ⟨_, _, _, .tmp rfl .nil, .cons (.same _) .nil, rfl, ?_⟩
    rfl
  · skip
    refine y_op rfl (Zae rfl rfl rfl rfl rfl) ?_
    refine y_op rfl (q_call rfl rfl (ZiT d2 40)) ?_
    refine y_op rfl (q_not rfl) ?_
    refine y_op rfl (q_pick rfl rfl rfl rfl) ?_
    refine AOps.nil ?_
    refine ARun.cond rfl (fun g2 => ?_) (fun g2 => ?_)
    · skip
      refine ARun.seq (ARun.region ?_)
      refine y_op rfl (q_call rfl rfl (Ze7)) ?_
      refine y_op rfl (Zaa rfl) ?_
      refine AOps.nil ?_
      refine ARun.ret ?_
      refine ⟨_, _, _, .tmp rfl .nil, .cons (.same _) .nil, rfl, ?_⟩
      rfl
    · skip
      refine ARun.skip (ARun.seq (ARun.region ?_))
      refine y_op rfl (Zae rfl rfl rfl rfl rfl) ?_
      refine y_op rfl (q_move rfl) ?_
      refine y_op rfl (q_move rfl) ?_
      refine y_op rfl (q_call rfl rfl (Zop d1 h1 bits s)) ?_
      refine y_op rfl (q_move rfl) ?_
      refine y_op rfl (Zab rfl rfl) ?_
      refine y_op rfl (Zab rfl rfl) ?_
      refine ZbL rfl rfl rfl rfl rfl rfl rfl rfl rfl rfl rfl ?_
      refine y_op rfl (Zaa rfl) ?_
      refine AOps.nil (ARun.seq (ARun.region ?_))
      refine y_op rfl (Zae rfl rfl rfl rfl rfl) ?_
      refine y_op rfl (Zae rfl rfl rfl rfl rfl) ?_
      refine y_op rfl (q_move rfl) ?_
      refine y_op rfl (q_call rfl rfl (Zov d1 d2 h1 h2 op)) ?_
      refine y_op rfl (q_move rfl) ?_
      refine y_op rfl (Zab rfl rfl) ?_
      refine y_op rfl (Zab rfl rfl) ?_
      refine ZbL rfl rfl rfl rfl rfl rfl rfl rfl rfl rfl rfl ?_
      refine y_op rfl (Zaa rfl) ?_
      refine AOps.nil (ARun.seq (ARun.region ?_))
      refine y_op rfl (Zae rfl rfl rfl rfl rfl) ?_
      refine y_op rfl (q_call rfl rfl (ZoY d1 h1)) ?_
      refine y_op rfl (q_move rfl) ?_
      refine y_op rfl (Zab rfl rfl) ?_
      refine y_op rfl (Zab rfl rfl) ?_
      refine ZbL rfl rfl rfl rfl rfl rfl rfl rfl rfl rfl rfl ?_
      refine y_op rfl (Zaa rfl) ?_
      refine AOps.nil (ARun.seq (ARun.region ?_))
      refine y_op rfl (Zae rfl rfl rfl rfl rfl) ?_
      refine y_op rfl (q_move rfl) ?_
      refine y_op rfl (q_call rfl rfl (Znv d1 h1 n hn1 hn2)) ?_
      refine y_op rfl (q_move rfl) ?_
      refine y_op rfl (Zab rfl rfl) ?_
      refine y_op rfl (Zab rfl rfl) ?_
      refine ZbL rfl rfl rfl rfl rfl rfl rfl rfl rfl rfl rfl ?_
      refine y_op rfl (Zaa rfl) ?_
      refine AOps.nil (ARun.seq ?_)
      refine ARun.drawnP 34 (fun _ => False) mixC rfl rfl (by kernel_rfl) (fun _ _ h => h.elim) ?_
      refine .op rfl (q_call rfl rfl (Ze7)) ?_
      refine .op rfl (q_move rfl) ?_
      refine .op rfl (Zae rfl rfl rfl rfl rfl) ?_
      refine .op rfl (q_move rfl) ?_
      refine .op rfl (Zae rfl rfl rfl rfl rfl) ?_
      refine .op rfl (q_move rfl) ?_
      refine .op rfl (q_move rfl) ?_
      refine .op rfl (q_call rfl rfl (Zot d1 h1 bits s)) ?_
      refine .op rfl (q_call rfl rfl (Zgw (resZ ([d1].all okI) (wrapO bits s (valI d1))))) ?_
      refine .op rfl (q_pick rfl rfl rfl rfl) ?_
      refine .op rfl (q_move rfl) ?_
      refine .op rfl (Zae rfl rfl rfl rfl rfl) ?_
      refine .op rfl (q_move rfl) ?_
      refine .op rfl (Zae rfl rfl rfl rfl rfl) ?_
      refine .op rfl (Zae rfl rfl rfl rfl rfl) ?_
      refine .op rfl (q_move rfl) ?_
      refine .op rfl (q_call rfl rfl (Zou d1 d2 h1 h2 op)) ?_
      refine .op rfl (q_call rfl rfl (Zgw (resZ ([d1, d2].all okI) (bitO op (valI d1) (valI d2))))) ?_
      refine .op rfl (q_pick rfl rfl rfl rfl) ?_
      refine .op rfl (q_move rfl) ?_
      refine .op rfl (Zae rfl rfl rfl rfl rfl) ?_
      refine .op rfl (q_move rfl) ?_
      refine .op rfl (Zae rfl rfl rfl rfl rfl) ?_
      refine .op rfl (q_call rfl rfl (ZoX d1 h1)) ?_
      refine .op rfl (q_call rfl rfl (Zgw (resZ ([d1].all okI) (fitO (-valI d1 - 1))))) ?_
      refine .op rfl (q_pick rfl rfl rfl rfl) ?_
      refine .op rfl (q_move rfl) ?_
      refine .op rfl (Zae rfl rfl rfl rfl rfl) ?_
      refine .op rfl (q_move rfl) ?_
      refine .op rfl (Zae rfl rfl rfl rfl rfl) ?_
      refine .op rfl (q_move rfl) ?_
      refine .op rfl (q_call rfl rfl (Znw d1 h1 n hn1 hn2)) ?_
      refine .op rfl (q_call rfl rfl (Zgw (resZ ([d1].all okI) (shiftO (valI d1) n)))) ?_
      refine .op rfl (q_pick rfl rfl rfl rfl) ?_
      refine .nil (fun hG => ?_)
      refine y_op rfl (Zaa rfl) ?_
      refine AOps.nil ?_
      refine ARun.ret ?_
      refine ⟨_, _, _, .tmp rfl .nil, .cons (.same _) .nil, rfl, ?_⟩
      rfl
end Go.V
/- THE ROWS: what the arguments read as, and what is left behind a call. -/
set_option maxRecDepth 100000
namespace Go.V
open Go.RowKit Go.Proofs Go.ChangeShapes Go.WideShapes Go.ChangeAt Go.ChangeMaps
theorem laidOutZ : laidOutB Tryz.prog = true := by kernel_rfl
theorem ownZ : ownKnob Tryz.prog.godebug = none := by kernel_rfl
theorem cell_lt {w : World} {a : Addr} {v : Value} (h : w.cell? a = some v) : a.block < w.heap.size := by
  apply Classical.byContradiction
  intro hn
  have : w.heap[a.block]? = none := by rw [Array.getElem?_eq_none_iff]; omega
  simp [World.cell?, this] at h
theorem SR0 (W : World) : SR C (fun _ => False) W [] [] :=
  ⟨rfl, fun i o b h => by simp at h, fun i j oi oj b h => by simp at h, fun i o b h => by simp at h, fun b h => h.elim, fun g cs h => by cases h⟩
theorem forb0 : forb (fun _ => False) [] [] = fun _ => False := by
  funext b
  apply propext
  constructor
  · rintro (h | ⟨i, o, h, _⟩)
    · exact h
    · simp at h
  · exact fun h => h.elim
section
variable {H : Type} {enc : TypeId × Value → H} {W : World}
theorem vr_limbs {fuel : Nat} {cs : List Value} {x : DataW H × List MemPlace} (h : DataW.trod enc Tryz.prog W 0 (fun _ => true) true fuel 23 cs = some x) :
    ∃ (v : Value) (xs : List Nat), cs = [v] ∧ U32 xs ∧ VR W (fun _ => False) [] [] (sln .u32 xs) v := by
  rcases open_ints Tryz.underlying23 Tryz.underlying54 (by kernel_rfl) h with ⟨rfl, _⟩ | ⟨a, len, cap, zs, rfl, _, hl, hm, hz, _, hcell, hwf⟩
  · refine ⟨_, [], rfl, fun _ h => (by cases h), ?_⟩
    simp only [VR]
    exact ⟨none, 0, rfl, Nat.le_refl _, Nat.zero_le _, fun h => (h rfl).elim⟩
  · simp only [if_true] at hz
    have hb : ∀ n ∈ zs, 0 ≤ n ∧ n < 4294967296 := by
      intro n hn
      have := hwf n hn
      simp [Lit.wf, IntKind.min, IntKind.max, IntKind.signed, IntKind.bits] at this
      omega
    have hu : U32 ((zs.take len).map Int.toNat) := by
      intro y hy
      obtain ⟨n, hn, rfl⟩ := List.mem_map.1 hy
      have := hb n (List.mem_of_mem_take hn)
      show n.toNat < 4294967296
      omega
    have hlen : ((zs.take len).map Int.toNat).length = len := by rw [List.length_map, List.length_take]; omega
    refine ⟨_, (zs.take len).map Int.toNat, rfl, hu, ?_⟩
    have hget : ∀ j : Nat, j < len → nts .u32 ((zs.take len).map Int.toNat) = nts .u32 ((zs.take len).map Int.toNat) → ((nts .u32 ((zs.take len).map Int.toNat))[j]? = some (.int .u32 (zs.getD j 0))) := by
      intro j hj _
      have hjz : j < zs.length := by omega
      have hn := hb (zs[j]'hjz) (List.getElem_mem hjz)
      simp only [nts, List.map_map, List.getElem?_map, List.getElem?_take, if_pos hj, List.getElem?_eq_getElem hjz, Option.map_some, Function.comp, List.getD_eq_getElem?_getD, Option.getD_some]
      congr 2
      omega
    simp only [VR]
    refine ⟨some a, cap, by rw [hlen], by rw [hlen]; exact hl, hm, fun hne => ⟨a, rfl, ?_, id, VRL_mk fun j d hd => ?_⟩⟩
    · have h0 : 0 < zs.length := by
        rcases Nat.eq_zero_or_pos zs.length with h | h
        · have : zs = [] := List.eq_nil_of_length_eq_zero h
          subst this
          simp [nts] at hne
        · exact h
      exact cell_lt (hcell 0 h0)
    · have hj : j < len := by
        have := (List.getElem?_eq_some_iff.1 hd).1
        simp only [nts, List.length_map, List.length_take] at this
        omega
      rw [hget j hj rfl] at hd
      injection hd with hd
      subst hd
      exact ⟨_, by rw [Nat.zero_add]; exact hcell j (by omega), rfl, by simp only [VR]⟩
theorem vr_Int {base : Nat} {v : Value} {d : DataW H} {p : List MemPlace} (hv : Value.okWide Tryz.prog W .any base 25 v) (h : DataW.Trod enc Tryz.prog W 0 (fun _ => true) true 25 v d p) :
    ∃ e : Bool × List Nat, U32 e.2 ∧ VR W (fun _ => False) [] [] (.agg [.bool e.1, sln .u32 e.2]) v := by
  obtain ⟨cs, rfl, hsz⟩ := okWide_struct Tryz.underlying25 hv
  obtain ⟨fuel, hf⟩ := h
  obtain ⟨y0, y1, n, _, hl, h0, h1⟩ := trod_struct2 Tryz.underlying25 hf
  have c25 : Tryz.prog.cellsOf 25 = 2 := by kernel_rfl
  have c4 : Tryz.prog.cellsOf 4 = 1 := by kernel_rfl
  have c23 : Tryz.prog.cellsOf 23 = 1 := by kernel_rfl
  rw [c25] at hsz
  obtain ⟨l⟩ := cs
  match l, hsz with
  | [c0, c1], _ =>
    simp only [Value.cells] at h0 h1
    rw [c4] at h0
    rw [c23] at h1
    obtain ⟨b, e0, _⟩ := DataW.trod_bool Tryz.underlying4 h0
    obtain ⟨v1, xs, e1, hu, hx⟩ := vr_limbs h1
    simp at e0 e1
    subst e0; subst e1
    refine ⟨(b, xs), hu, ?_⟩
    simp only [VR, VRs]
    refine ⟨[.bool b, c1], rfl, .bool b, [c1], rfl, rfl, c1, [], rfl, ?_, rfl⟩
    simpa only [VR] using hx
theorem vr_int {base : Nat} {v : Value} {d : DataW H} {p : List MemPlace} (hv : Value.okWide Tryz.prog W .any base 3 v) (h : DataW.Trod enc Tryz.prog W 0 (fun _ => true) true 3 v d p) :
    ∃ n : Int, -9223372036854775808 ≤ n ∧ n ≤ 9223372036854775807 ∧ VR W (fun _ => False) [] [] (.int .i64 n) v := by
  obtain ⟨n, rfl, _, _, hw⟩ := open_int Tryz.underlying3 hv h
  simp [Lit.wf, IntKind.min, IntKind.max, IntKind.signed, IntKind.bits] at hw
  exact ⟨n, by omega, by omega, by simp only [VR]⟩
theorem vr_bool {base : Nat} {v : Value} {d : DataW H} {p : List MemPlace} (hv : Value.okWide Tryz.prog W .any base 4 v) (h : DataW.Trod enc Tryz.prog W 0 (fun _ => true) true 4 v d p) :
    ∃ b : Bool, VR W (fun _ => False) [] [] (.bool b) v := by
  obtain ⟨b, rfl, _, _⟩ := open_bool Tryz.underlying4 hv h
  exact ⟨b, by simp only [VR]⟩
theorem trodAll_five {base : Nat} {sp : Nat → Bool} {held : Bool} {W : World} {t t' t'' t3 t4 : TypeId} {args : Array Value} {ds : List (DataW H)} {ps : List MemPlace} (h : DataW.TrodAll enc Tryz.prog W base sp held [t, t', t'', t3, t4] args.toList ds ps) :
    ∃ v v' v'' v3 v4 d d' d'' d3 d4 p p' p'' p3 p4, args = #[v, v', v'', v3, v4] ∧ ds = [d, d', d'', d3, d4] ∧ ps = p ++ p' ++ p'' ++ p3 ++ p4 ∧ DataW.Trod enc Tryz.prog W base sp held t v d p ∧ DataW.Trod enc Tryz.prog W base sp held t' v' d' p' ∧ DataW.Trod enc Tryz.prog W base sp held t'' v'' d'' p'' ∧ DataW.Trod enc Tryz.prog W base sp held t3 v3 d3 p3 ∧ DataW.Trod enc Tryz.prog W base sp held t4 v4 d4 p4 := by
  obtain ⟨v, vs, d, ds', p, q, hargs, rfl, rfl, hd, hrest⟩ := trodAll_cons h
  obtain ⟨v', v'', v3, v4, d', d'', d3, d4, p', p'', p3, p4, ha, rfl, rfl, h1, h2, h3, h4⟩ := trodAll_four (args := vs.toArray) (by simpa using hrest)
  have hvs : vs = [v', v'', v3, v4] := by simpa using congrArg Array.toList ha
  subst hvs
  exact ⟨v, v', v'', v3, v4, d, d', d'', d3, d4, p, p', p'', p3, p4, by cases args; simp_all, rfl, by simp, hd, h1, h2, h3, h4⟩
theorem trodAll_six {base : Nat} {sp : Nat → Bool} {held : Bool} {W : World} {t t' t'' t3 t4 t5 : TypeId} {args : Array Value} {ds : List (DataW H)} {ps : List MemPlace} (h : DataW.TrodAll enc Tryz.prog W base sp held [t, t', t'', t3, t4, t5] args.toList ds ps) :
    ∃ v v' v'' v3 v4 v5 d d' d'' d3 d4 d5 p p' p'' p3 p4 p5, args = #[v, v', v'', v3, v4, v5] ∧ ds = [d, d', d'', d3, d4, d5] ∧ ps = p ++ p' ++ p'' ++ p3 ++ p4 ++ p5 ∧ DataW.Trod enc Tryz.prog W base sp held t v d p ∧ DataW.Trod enc Tryz.prog W base sp held t' v' d' p' ∧ DataW.Trod enc Tryz.prog W base sp held t'' v'' d'' p'' ∧ DataW.Trod enc Tryz.prog W base sp held t3 v3 d3 p3 ∧ DataW.Trod enc Tryz.prog W base sp held t4 v4 d4 p4 ∧ DataW.Trod enc Tryz.prog W base sp held t5 v5 d5 p5 := by
  obtain ⟨v, vs, d, ds', p, q, hargs, rfl, rfl, hd, hrest⟩ := trodAll_cons h
  obtain ⟨v', v'', v3, v4, v5, d', d'', d3, d4, d5, p', p'', p3, p4, p5, ha, rfl, rfl, h1, h2, h3, h4, h5⟩ := trodAll_five (args := vs.toArray) (by simpa using hrest)
  have hvs : vs = [v', v'', v3, v4, v5] := by simpa using congrArg Array.toList ha
  subst hvs
  exact ⟨v, v', v'', v3, v4, v5, d, d', d'', d3, d4, d5, p, p', p'', p3, p4, p5, by cases args; simp_all, rfl, by simp, hd, h1, h2, h3, h4, h5⟩
theorem trodAll_stays {W' : World} (hb : Below W.heap.size W W') {sp : Nat → Bool} : ∀ {ts : List TypeId} {vs : List Value} {ds : List (DataW H)} {p : List MemPlace}, (∀ t ∈ ts, Tryz.prog.readableRec t = true ∧ t < Tryz.prog.types.size) →
    DataW.TrodAll enc Tryz.prog W 0 (fun _ => true) true ts vs ds p → (∀ x ∈ p, x.block < W.heap.size ∧ sp x.block = true) → DataW.TrodAll enc Tryz.prog W' 0 sp true ts vs ds p
  | [], _, _, _, _, h, _ => by
    obtain ⟨rfl, rfl, rfl⟩ := trodAll_nil h
    simp [DataW.TrodAll]
  | t :: ts, _, _, _, ht, h, hp => by
    obtain ⟨v, vs, d, ds, a, b, rfl, rfl, rfl, h1, h2⟩ := trodAll_cons h
    obtain ⟨r1, r2⟩ := ht t (List.mem_cons_self ..)
    exact ⟨a, b, WideElems.Trod_stays laidOutZ r1 r2 h1 (fun x hx => hb.same (hp x (List.mem_append_left _ hx)).1) (fun x hx => (hp x (List.mem_append_left _ hx)).2),
      trodAll_stays hb (fun t ht' => ht t (List.mem_cons_of_mem _ ht')) h2 (fun x hx => hp x (List.mem_append_right _ hx)), rfl⟩
theorem law_post {fn : Func} {s : ChangeSpec} {W' : World} {args : Array Value} {ds : List (DataW H)} {before : List MemPlace} (hs : s.vars = []) (hW : DataW.Whole enc Tryz.prog fn.params.toList s.vars false W args.toList ds [] before) (hf : s.fn H ds = { results := [.lit (.bool true)], args := ds })
    (hr : fn.resultTypes = #[4]) (hts : ∀ t ∈ fn.params.toList, Tryz.prog.readableRec t = true ∧ t < Tryz.prog.types.size) (hb : Below W.heap.size W W') : s.post enc Tryz.prog fn false true false false W args (.bool true) W' := by
  have hW' := hW
  obtain ⟨p, q, hA, hV, rfl, _, _⟩ := hW
  rw [hs] at hV
  obtain ⟨_, rfl⟩ := trodVars_none hV
  have hlt : ∀ x ∈ p, x.block < W.heap.size := fun x hx => by simpa using hW'.lt x (List.mem_append_left _ hx)
  refine ⟨ds, [], p ++ [], [], p, [], hW', ?_, ?_, ?_, hb.frame _, fun h => by cases h⟩
  · rw [List.append_nil, hf, hr]
    exact trodAll_mk1 (shut_bool Tryz.underlying4 _)
  · rw [List.append_nil, hf]
    exact trodAll_stays hb hts hA fun x hx => ⟨hlt x hx, by simpa using hlt x hx⟩
  · rw [List.append_nil, hf, hs]
    rfl
end
theorem law_calls {f : FuncId} {ds : List D} {W : World} {vs : List Value} (hc : PC C f ds (fun o => o = .ret (.bool true))) (hv : VRs W (fun _ => False) [] [] ds vs) : Calls Tryz.prog f vs.toArray W fun e W' => e = .returned (.bool true) ∧ Below W.heap.size W W' := by
  have h := (hc []).2 (fun _ => False) W [] vs (SR0 W) (by rw [forb0]; exact hv)
  refine h.mono ?_
  rintro e W' ⟨o, H', μ', ⟨rfl, rfl⟩, _, ⟨v, he, hv'⟩, hevo⟩
  simp only [VR] at hv'
  subst hv'
  exact ⟨he, hevo.os, hevo.tape, hevo.output, hevo.size, fun k hk => hevo.chg k hk fun ⟨i, o, h, _⟩ => by simp at h⟩
end Go.V
/- The closed facts of a row, one by one: what holds of the program itself, and how they are joined; no condition. -/
set_option maxRecDepth 100000
namespace Go.V
open Go.Proofs
theorem and_t {a b : Bool} (h1 : a = true) (h2 : b = true) : (a && b) = true := by rw [h1, h2]; rfl
theorem joined_of {P : Program} {f : FuncId} {fn : Func} {s : ChangeSpec} {c : OpenClaim}
    (k1 : (c.wf (OpenSpec.ofChange s)) = true)
    (k2 : (laidOutB P) = true)
    (k3 : (mapsRowed P) = true)
    (k4 : (fn.params.all (P.readableRec ·)) = true)
    (k5 : (namedTie P c.named s.vars) = true)
    (k6 : (c.stops == []) = true)
    (k7 : (P.stops == []) = true)
    (k8 : (c.knobs == []) = true)
    (k9 : (P.stopKnobs == []) = true)
    (k10 : (c.inPlace == P.inPlace f) = true)
    (k11 : (c.unfollowed == P.unfollowed f) = true)
    (k12 : (c.recurses == P.recurses f) = true)
    (k13 : (c.named == P.varsNamed f) = true)
    (k14 : ((c.maps == (fn.params.toList ++ s.plain.varTypes P).any (P.mapsRec ·))) = true)
    (k15 : ((c.ifaces == (fn.params.toList ++ s.plain.varTypes P).any (P.ifacesRec ·))) = true)
    (k16 : (c.mapsOut == P.mapsAmong fn.resultTypes.toList) = true)
    (k17 : ((c.loops == (fn.params.toList ++ s.plain.varTypes P).any (P.loopsFrom ·))) = true)
    (k18 : ((c.wideKeys == (fn.params.toList ++ s.plain.varTypes P ++ fn.resultTypes.toList).any (P.wideKeysFrom ·))) = true)
    (k19 : (s.vars.all (P.varReadable ·)) = true)
    (k20 : (fn.resultTypes.all (fun t => P.readableRec t && decide (t < P.types.size))) = true)
    (k21 : ((c.ifacesOut == fn.resultTypes.toList.any (P.ifacesRec ·))) = true)
    (k22 : ((c.loopsOut == fn.resultTypes.toList.any (P.loopsFrom ·))) = true)
    (k23 : (c.plainKeys == P.plainKeys) = true)
    (k24 : (c.shortTexts.isNone) = true)
    (k25 : (P.stopsHeard) = true)
    (k26 : (P.mayEnter) = true)
    (k27 : (c.lifted == P.liftsFinal) = true)
    (k28 : (P.make == some c.make) = true)
    (k29 : ((c.kinds == (if c.domain.isEmpty then [] else fn.params.toList.map fun t => match P.underlying t with | some (.int k) => some k | _ => none))) = true)
    (k30 : (c.pinned == c.pinnedBy) = true)
    (k31 : ((c.veiled == (fn.params.toList ++ s.plain.varTypes P ++ fn.resultTypes.toList).any (P.veiledRec ·))) = true)
    (k32 : (c.veiledFits P fn.params.toList (fn.params.toList ++ s.plain.varTypes P ++ fn.resultTypes.toList)) = true)
    : joinedFacts P f fn s c = true := by
  unfold joinedFacts
  exact and_t (and_t (and_t (and_t (and_t (and_t (and_t (and_t (and_t (and_t (and_t (and_t (and_t (and_t (and_t (and_t (and_t (and_t (and_t (and_t (and_t (and_t (and_t (and_t (and_t (and_t (and_t (and_t (and_t (and_t (and_t k1 k2) k3) k4) k5) k6) k7) k8) k9) k10) k11) k12) k13) k14) k15) k16) k17) k18) k19) k20) k21) k22) k23) k24) k25) k26) k27) k28) k29) k30) k31) k32
theorem z_maps : mapsRowed Tryz.prog = true := by kernel_rfl
theorem z_plainKeys : (Go.Proofs.YtjohcjagbodicaaGreatDoor.Rows.wholeSumsRow.plainKeys == Tryz.prog.plainKeys) = true := by kernel_rfl
theorem z_stopsHeard : Tryz.prog.stopsHeard = true := by kernel_rfl
theorem z_lifts : (Go.Proofs.YtjohcjagbodicaaGreatDoor.Rows.wholeSumsRow.lifted == Tryz.prog.liftsFinal) = true := by kernel_rfl
theorem z_make : (Tryz.prog.make == some Go.Proofs.YtjohcjagbodicaaGreatDoor.Rows.wholeSumsRow.make) = true := by kernel_rfl
theorem z_main : YtjohcjagbodicaaGreatDoor.Tryz.pinned.checked.prog.mainIs = some (true, "5b8a1e8da34a88fc5bd34c331ad38cb7b46866bf85af6ffc6bc920dabf7d6da1".toList) := by kernel_rfl
theorem z_looks : true = Tryz.prog.looks [] := by kernel_rfl
theorem z_enter : Tryz.prog.mayEnter = true := by kernel_rfl
end Go.V
