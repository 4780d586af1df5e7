/- A part of the proof: abstract values, rules for the steps of the program's form, and contracts of its functions, each proved; no condition. -/
import Derived.Test.YthankfodgdfgaaaDoorA12
import Derived.Laws.IdiomArrays
import Derived.Deep.Slices
import Derived.Maps.RangeWalk
import Derived.Test.YthankfodgdfgaaaDoorTie
import Derived.Test.YthankfodgdfgaaaDoorCards
import Derived.ProofKit
import Derived.OpenShut
import Derived.LaidMore
import Derived.Lay
import Derived.SevenTiedAt
import Derived.Carry
import Derived.Stop.Joined
import Derived.Lib.LaidIn
set_option linter.unusedVariables false
set_option linter.unusedSimpArgs false
set_option linter.unnecessarySimpa false
set_option maxHeartbeats 8000000
set_option maxRecDepth 100000
set_option synthInstance.maxSize 100000
set_option synthInstance.maxHeartbeats 2000000
namespace Go.V
open Go.RowKit Go.Proofs
theorem q_pcB {env : List D} {H : Heap} {dst : Option Tmp} {x y : Operand} {ty T' : TypeId} {pos : String} {aft : Array Edge} {gd : Option (Nat × Bool)} {p : Pc} {s : ByteArray} {a w n : Int} {c : Nat} (hx : evO Cg env x = some (pcA p)) (hy : evO Cg env y = some (.agg [.str s, .int .i64 a, .int .i64 w, .int .i64 n, .int .u8 (c : Int), .int .u64 0, .int .u64 0, .int .u64 0, .int .u64 0])) (hp : PcF p) (hq : PcF (bareP s a w n c)) :
    OpQ Cg ⟨dst, .binOp .eql Zab x y T', ty, pos, aft, gd⟩ env H (.bool (pEq p (bareP s a w n c))) := ZfX hx (by rw [hy, bare_cells]) hp hq
theorem pEq_rfl (p : Pc) : pEq p p = true := by unfold pEq; exact decide_eq_true ⟨rfl, rfl, rfl, rfl, rfl, rfl, rfl, rfl, rfl⟩
theorem wfS {a w n : Int} {c : Nat} {S : Nat → Bool} (ha : (Lit.int .i64 a).wf = true) (hw : (Lit.int .i64 w).wf = true) (hn : (Lit.int .i64 n).wf = true) (hc : c < 256) : PcF ⟨ByteArray.empty, a, w, n, c, S⟩ := ⟨⟨by show (0 : Nat) ≤ _; decide, hc⟩, ha, hw, hn⟩
theorem ZeD : PC Cg Ze5 [] (fun o => o = .ret (.bool true)) := by
  obtain ⟨S, hS⟩ : ∃ S, S = setx := ⟨_, rfl⟩
  obtain ⟨S4, hS4⟩ : ∃ S4, S4 = setx4 := ⟨_, rfl⟩
  obtain ⟨l1, hl1⟩ : ∃ l1, l1 = lx1 := ⟨_, rfl⟩
  obtain ⟨l2, hl2⟩ : ∃ l2, l2 = lx2 := ⟨_, rfl⟩
  have h100 : S 100 = true := by rw [hS]; rfl
  have h98 : S 98 = false := by rw [hS]; rfl
  have f1 : ∀ p ∈ l1, PcF p := by
    rw [hl1]
    intro p hp
    simp only [lx1, List.mem_cons, List.not_mem_nil, or_false] at hp
    rcases hp with rfl | rfl | rfl | rfl | rfl
    · exact wfS (by decide) (by decide) (by decide) (by decide)
    · exact wfS (by decide) (by decide) (by decide) (by decide)
    · exact ⟨⟨by decide, by decide⟩, by decide, by decide, by decide⟩
    · exact wfS (by decide) (by decide) (by decide) (by decide)
    exact wfS (by decide) (by decide) (by decide) (by decide)
  have f2 : ∀ p ∈ l2, PcF p := by
    rw [hl2]
    intro p hp
    simp only [lx2, List.mem_cons, List.not_mem_nil, or_false] at hp
    rcases hp with rfl | rfl
    · exact wfS (by decide) (by decide) (by decide) (by decide)
    exact wfS (by decide) (by decide) (by decide) (by decide)
  have g2 : ∀ p ∈ l2, p.lit.size ≤ 1048576 := by
    rw [hl2]
    intro p hp
    simp only [lx2, List.mem_cons, List.not_mem_nil, or_false] at hp
    rcases hp with rfl | rfl
    · decide
    decide
  have n1 : l1.length = 5 := by rw [hl1]; rfl
  have n2 : l2.length = 2 := by rw [hl2]; rfl
  have c1 : PC Cg ZaR [.str sx1] (fun o => o = .ret (.tup [slP l1, .int .i64 0, .int .i64 0])) := by have := ZcP sx1; rw [px1, ← hl1] at this; exact this
  have c2 : PC Cg ZaR [.str sx2] (fun o => o = .ret (.tup [slP l2, .int .i64 0, .int .i64 0])) := by have := ZcP sx2; rw [px2, ← hl2] at this; exact this
  have c3 : PC Cg ZaR [.str sx3] (fun o => o = .ret (.tup [slP [], .int .i64 6, .int .i64 4])) := by have := ZcP sx3; rw [px3] at this; exact this
  have c4 : PC Cg Zcq [slP l2] (fun o => o = .ret (.tup [.str sx2, .int .i64 0])) := by have := ZcO l2 f2 g2 (by omega); rw [show sPrint l2 = (sx2, 0) by rw [hl2]; exact prn_2] at this; exact this
  have c5 : PC Cg ZbG [.str sx4] (fun o => o = .ret (.tup [setD S4, .int .i64 0])) := by have := PC.g (ZdS sx4); rw [rx4, ← hS4] at this; exact this
  have c6 : PC Cg ZbI [setD S4] (fun o => o = .ret (.tup [.str (bytesOf [97, 45, 99, 101, 45]), .int .i64 0])) := by have := PC.g (ZdU S4); rw [show setTx S4 = ([97, 45, 99, 101, 45], 0) by rw [hS4]; exact tx4] at this; exact this
  have c7 : PC Cg ZcH [slP l1] (fun o => o = .ret (.tup [.int .i64 2, .int .i64 0])) := by have := ZfY l1 f1 (by omega); rw [show sArgs l1 = (2, 0) by rw [hl1]; exact args_1] at this; exact this
  have c8 : PC Cg ZbH [slP l2] (fun o => o = .ret (.tup [.bool false, .int .i64 0])) := by have := Ze9 l2 f2 (by omega); rw [show sOrd l2 = (false, 0) by rw [hl2]; exact ord_2] at this; exact this
  have d0 := pcs_drop l1 0 (by omega)
  have d1 := pcs_drop l1 1 (by omega)
  have d3 := pcs_drop l1 3 (by omega)
  have d4 := pcs_drop l1 4 (by omega)
  have e1 := pcs_drop l2 1 (by omega)
  have m1 : pcs l1 ≠ [] := pcs_ne (i := 0) (by omega)
  have m2 : pcs l2 ≠ [] := pcs_ne (i := 0) (by omega)
  rw [show l1.getD 0 pcZ = bareP ByteArray.empty 1 0 0 100 by rw [hl1]; rfl] at d0
  rw [show l1.getD 1 pcZ = bareP ByteArray.empty 0 0 0 32 by rw [hl1]; rfl] at d1
  rw [show l1.getD 3 pcZ = bareP ByteArray.empty 0 5 0 115 by rw [hl1]; rfl] at d3
  rw [show l1.getD 4 pcZ = bareP ByteArray.empty 2 0 3 102 by rw [hl1]; rfl] at d4
  rw [show l2.getD 1 pcZ = ⟨ByteArray.empty, 1, 0, 0, 91, S⟩ by rw [hl2, hS]; rfl] at e1
  have w0 : PcF (bareP ByteArray.empty 1 0 0 100) := wfS (by decide) (by decide) (by decide) (by decide)
  have w1 : PcF (bareP ByteArray.empty 0 0 0 32) := wfS (by decide) (by decide) (by decide) (by decide)
  have w3 : PcF (bareP ByteArray.empty 0 5 0 115) := wfS (by decide) (by decide) (by decide) (by decide)
  have w4 : PcF (bareP ByteArray.empty 2 0 3 102) := wfS (by decide) (by decide) (by decide) (by decide)
  clear hS hS4 hl1 hl2
  refine PC.rn Zdg ZeV ZeW (rs := [.tmp 0]) (by rw [ZeX]) ?_
  refine ARun.seq (ARun.region ?_); refine zza ?_; refine AOps.nil (ARun.seq (ARun.region ?_))
  refine zzc rfl rfl (c1) ?_
  refine zzm ?_; refine zze ?_; refine zze ?_; refine zze ?_; refine zza ?_; refine zza ?_; refine zza ?_; refine AOps.nil (ARun.seq (ARun.region ?_))
  refine zzc rfl rfl (c2) ?_
  refine zzm ?_; refine zze ?_; refine zze ?_; refine zze ?_; refine zza ?_; refine zza ?_; refine zza ?_; refine AOps.nil (ARun.seq (ARun.region ?_))
  refine zzc rfl rfl (c3) ?_
  refine zzm ?_; refine zze ?_; refine zze ?_; refine zze ?_; refine zza ?_; refine zza ?_; refine zza ?_; refine AOps.nil (ARun.seq (ARun.region ?_)); refine zzm ?_
  refine zzc rfl rfl (c4) ?_
  refine zzm ?_; refine zze ?_; refine zze ?_; refine zza ?_; refine zza ?_; refine AOps.nil (ARun.seq (ARun.region ?_))
  refine zzc rfl rfl (c5) ?_
  refine zzm ?_; refine zze ?_; refine zze ?_
  refine ZbF rfl rfl rfl rfl rfl rfl rfl rfl rfl rfl rfl ?_
  refine zza ?_; refine AOps.nil (ARun.seq (ARun.region ?_)); refine zzL ?_
  refine zzc rfl rfl (c6) ?_
  refine zzm ?_; refine zze ?_; refine zze ?_; refine zza ?_; refine zza ?_; refine AOps.nil (ARun.seq (ARun.region ?_)); refine zzm ?_
  refine zzc rfl rfl (c7) ?_
  refine zzm ?_; refine zze ?_; refine zze ?_; refine zza ?_; refine zza ?_; refine AOps.nil (ARun.seq (ARun.region ?_)); refine zzm ?_
  refine zzc rfl rfl (c8) ?_
  refine zzm ?_; refine zze ?_; refine zze ?_; refine zza ?_; refine zza ?_; refine AOps.nil (ARun.seq (ARun.seq (ARun.region ?_))); refine zzm ?_; refine zzi ?_; refine zzm ?_; refine zzm ?_; refine zzi ?_; refine zzp ?_; refine zzm ?_; refine zzm ?_; refine zzi ?_; refine zzp ?_; refine zzm ?_; refine zzm ?_; refine zzi ?_; refine zzp ?_; refine zzm ?_; refine zzm ?_; refine zzi ?_; refine zzp ?_; refine zzm ?_; refine zzm ?_; refine zzi ?_; refine zzp ?_; refine zzm ?_; refine zzm ?_; refine zzi ?_; refine zzp ?_; refine zzm ?_; refine zzm ?_; refine zzi ?_; refine zzp ?_; refine zzm ?_; refine zzm ?_; refine zzi ?_; refine zzp ?_; refine zzm ?_; refine zzm ?_; refine zzN ?_
  refine y_op rfl (OpQ.cast (d' := .bool false) (q_int rfl rfl rfl) (by rw [n1]; rfl)) ?_
  refine zzp ?_; refine zzm ?_; refine zzm ?_; refine zzN ?_
  refine y_op rfl (OpQ.cast (d' := .bool false) (q_int rfl rfl rfl) (by rw [n2]; rfl)) ?_
  refine zzp ?_; refine zzm ?_; refine zzm ?_; refine zzi ?_; refine zzp ?_; refine zzm ?_; refine zzm ?_; refine zzp ?_; refine AOps.nil ?_
  refine ARun.condF rfl ?_
  refine ARun.skip (ARun.seq (ARun.region ?_)); refine zzm ?_
  refine y_op rfl (Zao rfl rfl rfl rfl (by omega) (by omega) m1 d0) ?_
  refine zzL ?_
  refine y_op rfl (Za2 rfl rfl rfl rfl rfl) ?_
  refine y_op rfl (OpQ.cast (d' := .bool true) (q_pcB (p := bareP ByteArray.empty 1 0 0 100) (s := ByteArray.empty) (a := 1) (w := 0) (n := 0) (c := 100) rfl rfl w0 w0) (congrArg D.bool (pEq_rfl _))) ?_
  refine zzm ?_; refine zzm ?_
  refine y_op rfl (Zao rfl rfl rfl rfl (by omega) (by omega) m1 d1) ?_
  refine zzL ?_
  refine y_op rfl (Za2 rfl rfl rfl rfl rfl) ?_
  refine y_op rfl (OpQ.cast (d' := .bool true) (q_pcB (p := bareP ByteArray.empty 0 0 0 32) (s := ByteArray.empty) (a := 0) (w := 0) (n := 0) (c := 32) rfl rfl w1 w1) (congrArg D.bool (pEq_rfl _))) ?_
  refine zzp ?_; refine zzm ?_; refine zzm ?_
  refine y_op rfl (Zao rfl rfl rfl rfl (by omega) (by omega) m1 d3) ?_
  refine zzL ?_
  refine y_op rfl (Za2 rfl rfl rfl rfl rfl) ?_
  refine y_op rfl (OpQ.cast (d' := .bool true) (q_pcB (p := bareP ByteArray.empty 0 5 0 115) (s := ByteArray.empty) (a := 0) (w := 5) (n := 0) (c := 115) rfl rfl w3 w3) (congrArg D.bool (pEq_rfl _))) ?_
  refine zzp ?_; refine zzm ?_; refine zzm ?_
  refine y_op rfl (Zao rfl rfl rfl rfl (by omega) (by omega) m1 d4) ?_
  refine zzL ?_
  refine y_op rfl (Za2 rfl rfl rfl rfl rfl) ?_
  refine y_op rfl (OpQ.cast (d' := .bool true) (q_pcB (p := bareP ByteArray.empty 2 0 3 102) (s := ByteArray.empty) (a := 2) (w := 0) (n := 3) (c := 102) rfl rfl w4 w4) (congrArg D.bool (pEq_rfl _))) ?_
  refine zzp ?_; refine zza ?_; refine AOps.nil (ARun.seq (ARun.region ?_)); refine zzm ?_; refine zzm ?_; refine zzm ?_
  refine y_op rfl (OpQ.cast (d' := .bool true) (Zeh rfl rfl) (congrArg D.bool (by rw [str_eq]; exact decide_eq_true rfl))) ?_
  refine zzp ?_; refine zzm ?_; refine zzm ?_
  refine y_op rfl (OpQ.cast (d' := .bool true) (Zeh rfl rfl) (congrArg D.bool (by rw [str_eq]; exact decide_eq_true rfl))) ?_
  refine zzp ?_; refine zzm ?_; refine zzm ?_
  refine y_op rfl (Zao rfl rfl rfl rfl (by omega) (by omega) m2 e1) ?_
  refine zzf ?_; refine zzL ?_
  refine y_op rfl (OpQ.cast (d' := .bool true) (q_call rfl rfl (PC.g (ZbQ S 100 (by decide)))) (congrArg D.bool h100)) ?_
  refine zzp ?_; refine zzm ?_; refine zzm ?_
  refine y_op rfl (Zao rfl rfl rfl rfl (by omega) (by omega) m2 e1) ?_
  refine zzf ?_; refine zzL ?_
  refine y_op rfl (OpQ.cast (d' := .bool false) (q_call rfl rfl (PC.g (ZbQ S 98 (by decide)))) (congrArg D.bool h98)) ?_
  refine zzn ?_; refine zzp ?_; refine zza ?_; refine AOps.nil ?_
  refine ARun.ret ?_
  refine ⟨_, _, _, .tmp rfl .nil, .cons (.same _) .nil, rfl, ?_⟩
  rfl
end Go.V
set_option maxHeartbeats 4000000
set_option maxRecDepth 100000
namespace Go.V
open Go.RowKit Go.Proofs
/-! A SET's TEXT, READ AGAIN. -/
theorem readS_caret {r : List Nat} (hb : ∀ c ∈ r, c < 256) (hl : r.length + 1 ≤ 2000) : readS (bytesOf (94 :: r)) = readR true r := by
  have hs : sby (bytesOf (94 :: r)) = 94 :: r := sby_bytesOf (fun c hc => (List.mem_cons.1 hc).elim (fun e => by omega) (hb c))
  have hz : (bytesOf (94 :: r)).size = r.length + 1 := by rw [bytesOf_size, List.length_cons]
  have hp : isPre (bytesOf (94 :: r)) sCaret = true := by
    rw [isCaret, hs, decide_eq_true (by rw [hz]; omega)]; rfl
  unfold readS
  rw [if_neg (by rw [hz]; omega), hp]
  congr 1
  unfold cutR
  rw [hp, cond_true]
  show sby ((bytesOf (94 :: r)).extract 1 (bytesOf (94 :: r)).size) = r
  rw [hz, Nat.add_comm r.length 1, sby_cut (by rw [hz]; omega), hs]
  exact List.take_length
theorem readS_plain {l : List Nat} (hb : ∀ c ∈ l, c < 256) (hl : l.length ≤ 2000) (h : ∀ r, l ≠ 94 :: r) : readS (bytesOf l) = readR false l := by
  have hs : sby (bytesOf l) = l := sby_bytesOf hb
  have hz : (bytesOf l).size = l.length := bytesOf_size l
  have hp : isPre (bytesOf l) sCaret = false := by
    rw [isCaret, hs]
    cases l with
    | nil => rfl
    | cons c r =>
      have : (c :: r).getD 0 0 ≠ 94 := fun e => h r (by rw [show c = 94 from e])
      rw [decide_eq_false this, Bool.and_false]
  unfold readS
  rw [if_neg (by rw [hz]; omega), hp]
  unfold cutR
  rw [hp, cond_false, hs]
theorem ssize_ex {T : Nat → Bool} (h : ssize T 256 ≠ 0) : ∃ x, x < 256 ∧ T x = true := by
  apply Classical.byContradiction
  intro hn
  apply h
  rw [ssize_cnt]
  exact cnt_zero 0 fun x _ hx => by
    cases g : T x
    · rfl
    exact absurd ⟨x, hx, g⟩ hn
theorem ssize_two {S : Nat → Bool} {a b : Nat} (ha : a < 256) (hb : b < 256) (hab : a ≠ b) (hA : S a = true) (hB : S b = true) : 2 ≤ ssize S 256 := by
  have : cnt (fun y => (if y = a then 1 else 0) + (if y = b then 1 else 0)) 0 ≤ cnt (fun x => b2n (S x)) 0 := cnt_le 0 fun y _ _ => by
    by_cases e : y = a
    · subst e; rw [if_pos rfl, if_neg hab, hA]; exact Nat.le_refl 1
    rw [if_neg e]
    by_cases e2 : y = b
    · subst e2; rw [if_pos rfl, hB]; exact Nat.le_refl 1
    rw [if_neg e2]; exact Nat.zero_le _
  rw [cnt_add, cnt_one (a := a) 0 (Nat.zero_le _) ha (fun y _ _ hne => if_neg hne), cnt_one (a := b) 0 (Nat.zero_le _) hb (fun y _ _ hne => if_neg hne), if_pos rfl, if_pos rfl, ← ssize_cnt] at this
  exact this
theorem readR_body {T : Nat → Bool} {neg : Bool} (h0 : T 0 = false) (hne : ssize T 256 ≠ 0) : ∃ A, readR neg (setBody T) = (bif neg then sother A else A, 0) ∧ ∀ x, x < 256 → A x = T x := by
  obtain ⟨x, hx, hT⟩ := ssize_ex hne
  have h1 : 1 ≤ x := by
    rcases Nat.eq_zero_or_pos x with rfl | h
    · rw [h0] at hT; cases hT
    exact h
  have hn := body_ne h1 hx hT
  have hg := body_good h0 hn
  obtain ⟨A, a, b⟩ := rdI_body T
  refine ⟨A, readR_some hg a, fun y hy => ?_⟩
  rcases Nat.eq_zero_or_pos y with rfl | h
  · rw [h0]
    refine rdI_nz _ _ _ (fun c hc e => ?_) rfl a
    subst e
    unfold rdBad at hg
    rw [Bool.or_eq_false_iff, Bool.or_eq_false_iff] at hg
    exact of_decide_eq_false hg.1.2 hc
  exact b y h hy
theorem sother_sother {S : Nat → Bool} {A : Nat → Bool} (h0 : S 0 = false) (h : ∀ x, x < 256 → A x = sother S x) : ∀ x, x < 256 → sother A x = S x := by
  intro x hx
  unfold sother
  rw [h x hx]
  unfold sother
  by_cases e : x = 0
  · subst e; rw [h0]; rfl
  rw [decide_eq_true e]; cases S x <;> rfl
theorem setTx_back {S : Nat → Bool} (h0 : S 0 = false) : ∃ A, readS (bytesOf (setTx S).1) = (A, 0) ∧ ∀ x, x < 256 → A x = S x := by
  have hL := setTx_128 S
  have ho := ssize_other h0
  unfold setTx at hL ⊢
  rw [h0, cond_false] at hL ⊢
  cases hn : setNeg (ssize S 256) (S 94)
  · rw [hn, cond_false] at hL
    rw [cond_false]
    have hn' := hn
    unfold setNeg at hn
    simp only [Bool.or_eq_false_iff, Bool.and_eq_false_iff, decide_eq_false_iff_not] at hn
    cases h2 : (decide (ssize S 256 = 2) && S 94) && S 45
    · rw [h2, cond_false] at hL
      rw [cond_false]
      have hL : (setBody S).length ≤ 128 := hL
      show ∃ A, readS (bytesOf (setBody S)) = (A, 0) ∧ _
      have hc : ∀ r, setBody S ≠ 94 :: r := by
        intro r hr
        have hall := body_caret hr
        have h93 : S 93 = false := by
          cases g : S 93
          · rfl
          rcases hall 93 (by decide) (by decide) g with e | e <;> omega
        have hrt : rtx S 1 = [] := by
          rw [rtx_skip 256 (Nat.le_refl _) (by decide) (fun x a b => ?_), rtx_end]
          cases g : rin S x
          · rfl
          have := rin_ne g
          rcases hall x a b this.1 with e | e
          · exact absurd e this.2.2.2
          exact absurd e this.2.1
        unfold setBody at hr
        rw [h93, hrt] at hr
        have hr : pre1 (S 94) 94 ++ pre1 (S 45) 45 = 94 :: r := hr
        cases g94 : S 94
        · rw [g94] at hr
          have hr : pre1 (S 45) 45 = 94 :: r := hr
          cases g45 : S 45
          · rw [g45] at hr; cases hr
          rw [g45] at hr
          have hr : [45] = 94 :: r := hr
          injection hr with hr; cases hr
        have hb : cnt (fun x => b2n (S x)) 0 ≤ cnt (fun y => (if y = 94 then 1 else 0) + (if y = 45 then b2n (S 45) else 0)) 0 := cnt_le 0 fun y _ hy => by
          by_cases e : y = 94
          · subst e; rw [if_pos rfl]; have := b2n_le (S 94); omega
          by_cases e2 : y = 45
          · subst e2; rw [if_pos rfl]; exact Nat.le_add_left _ _
          cases g : S y
          · exact Nat.zero_le _
          have h1 : 1 ≤ y := by
            rcases Nat.eq_zero_or_pos y with h | h
            · rw [h, h0] at g; cases g
            exact h
          rcases hall y h1 hy g with e3 | e3
          · exact absurd e3 e
          exact absurd e3 e2
        rw [cnt_add, cnt_one (a := 94) 0 (Nat.zero_le _) (by decide) (fun y _ _ hne => if_neg hne), cnt_one (a := 45) 0 (Nat.zero_le _) (by decide) (fun y _ _ hne => if_neg hne), if_pos rfl, if_pos rfl, ← ssize_cnt] at hb
        cases g45 : S 45
        · rw [g45] at hb
          have hb : ssize S 256 ≤ 1 := hb
          rw [g94] at hn
          have := hn.1.1
          have := hn.2
          simp only [Bool.true_eq_false, or_false] at this
          omega
        rw [g45] at hb
        have hb : ssize S 256 ≤ 2 := hb
        have := ssize_two (a := 94) (b := 45) (by decide) (by decide) (by decide) g94 g45
        rw [g94, g45, decide_eq_true (show ssize S 256 = 2 by omega)] at h2
        cases h2
      rw [readS_plain (setBody_lt S) (by omega) hc]
      obtain ⟨A, a, b⟩ := readR_body (neg := false) h0 hn.1.1
      exact ⟨A, a, b⟩
    rw [cond_true]
    simp only [Bool.and_eq_true, decide_eq_true_eq] at h2
    obtain ⟨⟨e2, e94⟩, e45⟩ := h2
    refine ⟨sr (sr sempty 45 46) 94 95, ?_, fun x hx => ?_⟩
    · rw [show (([45, 94], 0) : List Nat × Int).1 = [45, 94] from rfl, readS_plain (by decide) (by decide) (fun r e => by cases e)]
      rfl
    rw [sr_in, sr_in]
    by_cases h1 : x = 45
    · subst h1; rw [e45]; rfl
    by_cases h3 : x = 94
    · subst h3; rw [e94]; rfl
    rw [two_of e2 (a := 94) (b := 45) (by decide) (by decide) (by decide) e94 e45 hx h3 h1]
    unfold sempty
    rw [Bool.false_or, ← Bool.decide_and, ← Bool.decide_and, ← Bool.decide_or]
    exact decide_eq_false (by omega)
  rw [hn, cond_true] at hL
  rw [cond_true]
  have hL : (setBody (sother S)).length + 1 ≤ 128 := hL
  show ∃ A, readS (bytesOf (94 :: setBody (sother S))) = (A, 0) ∧ _
  rw [readS_caret (setBody_lt _) (by omega)]
  have hne : ssize (sother S) 256 ≠ 0 := by
    unfold setNeg at hn
    simp only [Bool.or_eq_true, Bool.and_eq_true, decide_eq_true_eq] at hn
    omega
  obtain ⟨A, a, b⟩ := readR_body (neg := true) (T := sother S) (by unfold sother; rw [decide_eq_false (by omega), Bool.and_false]) hne
  exact ⟨sother A, a, sother_sother h0 b⟩
end Go.V
set_option maxHeartbeats 1000000
set_option maxRecDepth 100000
namespace Go.V
open Go.RowKit Go.Proofs
/-! A PIECE's TEXT, READ AGAIN. -/
theorem dgL_dnum : ∀ (N : Nat) (r : List Nat), 1 ≤ N → N ≤ 99999 → dgL 0 (dnum N ++ r) = dgL N r := by
  intro N
  induction N using Nat.strongRecOn with
  | ind N ih =>
    intro r h1 h2
    by_cases h : 9 < N
    · rw [dnum_big h, List.append_assoc, ih (N / 10) (by omega) _ (by omega) (by omega), List.singleton_append, dgL]
      have hs : sdp (N / 10) (48 + N % 10) = true := by
        unfold sdp
        rw [decide_eq_true (show 48 ≤ 48 + N % 10 by omega), decide_eq_true (show 48 + N % 10 ≤ 57 by omega), decide_eq_true (show 0 < N / 10 by omega)]; rfl
      rw [if_pos hs, show min 100000 (10 * (N / 10) + (48 + N % 10 - 48)) = N by omega]
    rw [dnum_one h, List.singleton_append, dgL]
    have hs : sdp 0 (48 + N % 10) = true := by
      unfold sdp
      rw [decide_eq_true (show 48 ≤ 48 + N % 10 by omega), decide_eq_true (show 48 + N % 10 ≤ 57 by omega), decide_eq_true (show 48 < 48 + N % 10 by omega), Bool.or_true]; rfl
    rw [if_pos hs, show min 100000 (10 * 0 + (48 + N % 10 - 48)) = N by omega]
def nodig (c : Nat) : Prop := ¬ (48 ≤ c ∧ c ≤ 57)
theorem dgL_nd {c : Nat} (n : Nat) (z : List Nat) (h : nodig c) : dgL n (c :: z) = (n, c :: z) := by
  have hs : ¬ sdp n c = true := by
    unfold sdp
    rw [← Bool.decide_and, decide_eq_false h, Bool.false_and]; exact Bool.false_ne_true
  rw [dgL, if_neg hs]
def wTx (n : Nat) : List Nat := if 0 < n then dnum n else []
theorem dgL_wTx {n c : Nat} (z : List Nat) (hn : n ≤ 99999) (hc : nodig c) : dgL 0 (wTx n ++ c :: z) = (n, c :: z) := by
  unfold wTx
  split
  · rw [dgL_dnum n _ (by omega) hn, dgL_nd n z hc]
  rw [List.nil_append, dgL_nd 0 z hc, show n = 0 by omega]
theorem classF_mem : ∀ c, sclass c ≠ 0 → c ∈ [100, 105, 117, 111, 120, 88, 98, 101, 69, 102, 70, 103, 71, 97, 65, 99, 115, 91, 112, 110] := by
  intro c h
  apply Classical.byContradiction
  intro hn
  simp only [List.mem_cons, List.not_mem_nil, or_false, not_or] at hn
  apply h
  unfold sclass rowsN
  simp only [classF, List.mem_cons, List.not_mem_nil, or_false]
  repeat rw [if_neg (by omega)]
theorem sclass_5 {c : Nat} (h : sclass c = 5) : c = 110 := by
  have := classF_mem c (by rw [h]; decide)
  simp only [List.mem_cons, List.not_mem_nil, or_false] at this
  rcases this with rfl | rfl | rfl | rfl | rfl | rfl | rfl | rfl | rfl | rfl | rfl | rfl | rfl | rfl | rfl | rfl | rfl | rfl | rfl | rfl <;> first | rfl | exact absurd h (by decide)
theorem lenAt_c1 : ∀ k, k < 12 → (lenAt k).length ≠ 0 → sclass ((lenAt k).getD 0 0) = 0 := by decide
theorem lenAt_c2 : ∀ k, k < 12 → (lenAt k).length = 2 → sclass ((lenAt k).getD 1 0) = 0 := by decide
theorem lenAt_inj : ∀ k, k < 12 → ∀ j, j < 12 → lenAt k = lenAt j → k = j := by decide
theorem lenAt_no : ∀ k, k < 12 → ∀ c ∈ lenAt k, ¬ (48 ≤ c ∧ c ≤ 57) ∧ c ≠ 36 ∧ c ≠ 42 ∧ c ≠ 37 := by decide
theorem conv_no {c : Nat} (h : sclass c ≠ 0) : nodig c ∧ c ≠ 36 ∧ c ≠ 42 ∧ c ≠ 37 := by
  have := classF_mem c h
  simp only [List.mem_cons, List.not_mem_nil, or_false] at this
  unfold nodig
  omega
theorem modL_print {k c : Nat} (hk : k < 12) (hc : sclass c ≠ 0) (z : List Nat) : modL (lenAt k ++ c :: z) = k := by
  obtain ⟨g1, g2⟩ := modL_ok (lenAt k ++ c :: z)
  have hm := modL_max (r := lenAt k ++ c :: z) hk List.take_left
  generalize modL (lenAt k ++ c :: z) = j at *
  have l1 := lenAt_2 k hk
  have l2 := lenAt_2 j g1
  rcases Nat.eq_or_lt_of_le hm with h | h
  · refine lenAt_inj j g1 k hk ?_
    rw [← g2, ← h, List.take_left]
  exfalso
  rcases Nat.eq_zero_or_pos (lenAt k).length with h0 | h0
  · have hn : lenAt k = [] := List.eq_nil_of_length_eq_zero h0
    rw [hn, List.nil_append] at g2
    obtain ⟨n, hn⟩ : ∃ n, (lenAt j).length = n + 1 := ⟨(lenAt j).length - 1, by omega⟩
    have : (lenAt j).getD 0 0 = c := by rw [← g2, hn]; rfl
    exact hc (this ▸ lenAt_c1 j g1 (by omega))
  have h2 : (lenAt j).length = 2 := by omega
  obtain ⟨x, hx⟩ : ∃ x, lenAt k = [x] := by
    cases e : lenAt k with
    | nil => rw [e] at h0; cases h0
    | cons x t =>
      rw [e, List.length_cons] at h
      have : t = [] := List.eq_nil_of_length_eq_zero (by omega)
      exact ⟨x, by rw [this]⟩
  rw [hx] at g2
  have : (lenAt j).getD 1 0 = c := by rw [← g2, h2]; rfl
  exact hc (this ▸ lenAt_c2 j g1 h2)
theorem body_plain {S : Nat → Bool} (h0 : S 0 = false) (hn' : setNeg (ssize S 256) (S 94) = false) (h2 : ((decide (ssize S 256 = 2) && S 94) && S 45) = false) : ∀ r, setBody S ≠ 94 :: r := by
  have hn := hn'
  unfold setNeg at hn
  simp only [Bool.or_eq_false_iff, Bool.and_eq_false_iff, decide_eq_false_iff_not] at hn
  intro r hr
  have hall := body_caret hr
  have h93 : S 93 = false := by
    cases g : S 93
    · rfl
    rcases hall 93 (by decide) (by decide) g with e | e <;> omega
  have hrt : rtx S 1 = [] := by
    rw [rtx_skip 256 (Nat.le_refl _) (by decide) (fun x a b => ?_), rtx_end]
    cases g : rin S x
    · rfl
    have := rin_ne g
    rcases hall x a b this.1 with e | e
    · exact absurd e this.2.2.2
    exact absurd e this.2.1
  unfold setBody at hr
  rw [h93, hrt] at hr
  have hr : pre1 (S 94) 94 ++ pre1 (S 45) 45 = 94 :: r := hr
  cases g94 : S 94
  · rw [g94] at hr
    have hr : pre1 (S 45) 45 = 94 :: r := hr
    cases g45 : S 45
    · rw [g45] at hr; cases hr
    rw [g45] at hr
    have hr : [45] = 94 :: r := hr
    injection hr with hr; cases hr
  have hb : cnt (fun x => b2n (S x)) 0 ≤ cnt (fun y => (if y = 94 then 1 else 0) + (if y = 45 then b2n (S 45) else 0)) 0 := cnt_le 0 fun y _ hy => by
    by_cases e : y = 94
    · subst e; rw [if_pos rfl]; have := b2n_le (S 94); omega
    by_cases e2 : y = 45
    · subst e2; rw [if_pos rfl]; exact Nat.le_add_left _ _
    cases g : S y
    · exact Nat.zero_le _
    have h1 : 1 ≤ y := by
      rcases Nat.eq_zero_or_pos y with h | h
      · rw [h, h0] at g; cases g
      exact h
    rcases hall y h1 hy g with e3 | e3
    · exact absurd e3 e
    exact absurd e3 e2
  rw [cnt_add, cnt_one (a := 94) 0 (Nat.zero_le _) (by decide) (fun y _ _ hne => if_neg hne), cnt_one (a := 45) 0 (Nat.zero_le _) (by decide) (fun y _ _ hne => if_neg hne), if_pos rfl, if_pos rfl, ← ssize_cnt] at hb
  cases g45 : S 45
  · rw [g45] at hb
    have hb : ssize S 256 ≤ 1 := hb
    rw [g94] at hn
    have := hn.1.1
    have := hn.2
    simp only [Bool.true_eq_false, or_false] at this
    omega
  rw [g45] at hb
  have hb : ssize S 256 ≤ 2 := hb
  have := ssize_two (a := 94) (b := 45) (by decide) (by decide) (by decide) g94 g45
  rw [g94, g45, decide_eq_true (show ssize S 256 = 2 by omega)] at h2
  cases h2
theorem fx_none93 : ∀ (l z : List Nat), 93 ∉ l → fx (l ++ 93 :: z) = some l.length
  | [], z, _ => rfl
  | a :: l, z, h => by
    rw [List.mem_cons, not_or] at h
    rw [List.cons_append, fx, if_neg (fun e => h.1 e.symm), fx_none93 l z h.2]; rfl
theorem stL_of {tx u l : List Nat} {A : Nat → Bool} (ht : tx = u ++ l) (hl : 93 ∉ l) (hd : ∀ z, dropIf 93 (dropIf 94 (tx ++ 93 :: z)) = l ++ 93 :: z) (hr : readS (bytesOf tx) = (A, 0)) (z : List Nat) : stL (tx ++ 93 :: z) = some (A, z) := by
  unfold stL
  rw [hd z, fx_none93 l z hl]
  simp only
  have e1 : (l ++ 93 :: z).drop (l.length + 1) = z := by
    rw [show l ++ 93 :: z = (l ++ [93]) ++ z by simp, show l.length + 1 = (l ++ [93]).length by simp, List.drop_left]
  have e2 : (tx ++ 93 :: z).take ((tx ++ 93 :: z).length - z.length - 1) = tx := by
    rw [show (tx ++ 93 :: z).length - z.length - 1 = tx.length by rw [List.length_append, List.length_cons]; omega, List.take_left]
  rw [e1, e2, hr]
  simp only [if_true]
theorem body_93 (T : Nat → Bool) : ∃ (b : Bool) (l : List Nat), setBody T = pre1 b 93 ++ l ∧ 93 ∉ l := by
  refine ⟨T 93, _, rfl, fun h => ?_⟩
  rcases tail_mem h with e | e | e
  · cases e
  · cases e
  exact (rin_ne e).2.2.1 rfl
theorem dropIf_body {b : Bool} {l : List Nat} (hl : 93 ∉ l) (hne : pre1 b 93 ++ l ≠ []) (z : List Nat) : dropIf 93 ((pre1 b 93 ++ l) ++ 93 :: z) = l ++ 93 :: z := by
  cases b
  · cases l with
    | nil => exact absurd rfl hne
    | cons a l =>
      rw [List.mem_cons, not_or] at hl
      show (bif hdIs (a :: (l ++ 93 :: z)) 93 then _ else _) = _
      have : hdIs (a :: (l ++ 93 :: z)) 93 = false := decide_eq_false (fun e => hl.1 e.symm)
      rw [this]; rfl
  show (bif hdIs (93 :: (l ++ 93 :: z)) 93 then _ else _) = _
  have : hdIs (93 :: (l ++ 93 :: z)) 93 = true := rfl
  rw [this]; rfl
theorem stL_print {S : Nat → Bool} (h0 : S 0 = false) : ∃ A, (∀ z, stL ((setTx S).1 ++ 93 :: z) = some (A, z)) ∧ ∀ x, x < 256 → A x = S x := by
  obtain ⟨A, hA, hAS⟩ := setTx_back h0
  refine ⟨A, ?_, hAS⟩
  have ho := ssize_other h0
  unfold setTx at hA ⊢
  rw [h0, cond_false] at hA ⊢
  cases hn : setNeg (ssize S 256) (S 94)
  · rw [hn, cond_false] at hA
    rw [cond_false]
    have hn' := hn
    unfold setNeg at hn
    simp only [Bool.or_eq_false_iff, Bool.and_eq_false_iff, decide_eq_false_iff_not] at hn
    cases h2 : (decide (ssize S 256 = 2) && S 94) && S 45
    · rw [h2, cond_false] at hA
      rw [cond_false]
      have hc := body_plain h0 hn' h2
      obtain ⟨b, l, e1, e2⟩ := body_93 S
      obtain ⟨x, hx, hT⟩ := ssize_ex hn.1.1
      have hne := body_ne (by
        rcases Nat.eq_zero_or_pos x with rfl | h
        · rw [h0] at hT; cases hT
        exact h) hx hT
      refine stL_of (u := pre1 b 93) (l := l) e1 e2 (fun z => ?_) hA
      show dropIf 93 (dropIf 94 (setBody S ++ 93 :: z)) = _
      have hd : dropIf 94 (setBody S ++ 93 :: z) = setBody S ++ 93 :: z := by
        cases hb : setBody S with
        | nil => exact absurd hb hne
        | cons a t =>
          have : hdIs ((a :: t) ++ 93 :: z) 94 = false := decide_eq_false (fun e => hc t (by rw [hb, e]))
          unfold dropIf
          rw [this]; rfl
      rw [hd, e1]
      exact dropIf_body e2 (by rw [← e1]; exact hne) z
    rw [h2, cond_true] at hA
    rw [cond_true]
    exact stL_of (u := []) (l := [45, 94]) rfl (by decide) (fun z => rfl) hA
  rw [hn, cond_true] at hA
  rw [cond_true]
  obtain ⟨b, l, e1, e2⟩ := body_93 (sother S)
  have hne0 : ssize (sother S) 256 ≠ 0 := by
    unfold setNeg at hn
    simp only [Bool.or_eq_true, Bool.and_eq_true, decide_eq_true_eq] at hn
    omega
  obtain ⟨x, hx, hT⟩ := ssize_ex hne0
  have hne := body_ne (by
    rcases Nat.eq_zero_or_pos x with rfl | h
    · unfold sother at hT; rw [decide_eq_false (by omega), Bool.and_false] at hT; cases hT
    exact h) hx hT
  refine stL_of (u := 94 :: pre1 b 93) (l := l) (by show 94 :: setBody (sother S) = _; rw [e1]; rfl) e2 (fun z => ?_) hA
  show dropIf 93 (dropIf 94 (94 :: (setBody (sother S) ++ 93 :: z))) = _
  have hd : dropIf 94 (94 :: (setBody (sother S) ++ 93 :: z)) = setBody (sother S) ++ 93 :: z := by
    unfold dropIf
    have : hdIs (94 :: (setBody (sother S) ++ 93 :: z)) 94 = true := rfl
    rw [this]; rfl
  rw [hd, e1]
  exact dropIf_body e2 (by rw [← e1]; exact hne) z
end Go.V
set_option maxHeartbeats 1000000
set_option maxRecDepth 100000
namespace Go.V
open Go.RowKit Go.Proofs
structure CvF (p : Pc) : Prop where
  cl : sclass p.conv ≠ 0
  lit : sby p.lit = []
  arg : 0 ≤ p.arg ∧ p.arg ≤ 64
  wid : 0 ≤ p.wid ∧ p.wid ≤ 10000
  sl : slong ((sclass p.conv : Nat) : Int) p.len = true
  n : p.conv = 110 → p.arg ≠ 0 ∧ ¬ p.wid > 0
  st : if p.conv = 91 then p.set 0 = false else sEq p.set sempty = true
theorem svalid_cvf {p : Pc} (h : svalid p = true) (hs : spl p = false) : CvF p := by
  unfold svalid at h
  rw [hs, cond_false] at h
  cases a : (((((decide (sclass p.conv = 0) || !decide (sby p.lit = [])) || decide (p.arg < 0)) || decide (p.arg > 64)) || decide (p.wid < 0)) || decide (p.wid > 10000)) || !slong ((sclass p.conv : Nat) : Int) p.len
  · rw [a, cond_false] at h
    simp only [Bool.or_eq_false_iff, decide_eq_false_iff_not, Bool.not_eq_false', decide_eq_true_eq] at a
    cases b : decide (p.conv = 110) && (decide (p.arg = 0) || decide (p.wid > 0))
    · rw [b, cond_false] at h
      refine ⟨a.1.1.1.1.1.1, a.1.1.1.1.1.2, by omega, by omega, a.2, fun e => ?_, ?_⟩
      · rw [decide_eq_true e, Bool.true_and, Bool.or_eq_false_iff] at b
        exact ⟨of_decide_eq_false b.1, of_decide_eq_false b.2⟩
      by_cases e : p.conv = 91
      · rw [if_pos e]; rw [decide_eq_true e, cond_true] at h; simpa using h
      rw [if_neg e]; rw [decide_eq_false e, cond_false] at h; exact h
    rw [b, cond_true] at h; cases h
  rw [a, cond_true] at h; cases h
theorem tail_print {p : Pc} (h : CvF p) : ∃ A : Nat → Bool, (∀ x, x < 256 → A x = p.set x) ∧ ∀ (cnt : Nat) (w pl : Bool) (n : Nat) (mute po : Bool) (z : List Nat), (p.conv = 110 → mute = false) →
    dgL 0 (wTx p.wid.toNat ++ (lenAt p.len.toNat ++ p.conv :: (pSet p ++ z))) = (p.wid.toNat, lenAt p.len.toNat ++ p.conv :: (pSet p ++ z)) ∧
    tailL cnt w pl n mute po (wTx p.wid.toNat ++ (lenAt p.len.toNat ++ p.conv :: (pSet p ++ z))) = convE cnt w pl n mute po p.wid.toNat p.len.toNat p.conv A z := by
  have hlen := slong_rng h.sl
  have hk : p.len.toNat < 12 := by omega
  have hcn := conv_no h.cl
  have hd : ∀ y, dgL 0 (wTx p.wid.toNat ++ (lenAt p.len.toNat ++ p.conv :: y)) = (p.wid.toNat, lenAt p.len.toNat ++ p.conv :: y) := fun y => by
    have hw := h.wid
    cases e : lenAt p.len.toNat with
    | nil => exact dgL_wTx y (by omega) hcn.1
    | cons a t => exact dgL_wTx _ (by omega) (lenAt_no _ hk a (by rw [e]; exact List.mem_cons_self ..)).1
  have key : ∃ A : Nat → Bool, (∀ x, x < 256 → A x = p.set x) ∧ ∀ (cnt : Nat) (w pl : Bool) (n : Nat) (mute po : Bool) (z : List Nat), (p.conv = 110 → mute = false) → convC cnt w pl n mute po p.wid.toNat p.len.toNat (p.conv :: (pSet p ++ z)) = convE cnt w pl n mute po p.wid.toNat p.len.toNat p.conv A z := by
    have hb : ∀ mute : Bool, (p.conv = 110 → mute = false) → ((decide (sclass p.conv = 0) || !slong ((sclass p.conv : Nat) : Int) ((p.len.toNat : Nat) : Int)) || (decide (sclass p.conv = 5) && (mute || decide (0 < p.wid.toNat)))) = false := fun mute hm => by
      rw [decide_eq_false h.cl, show ((p.len.toNat : Nat) : Int) = p.len by omega, h.sl]
      by_cases h5 : sclass p.conv = 5
      · have h110 := sclass_5 h5
        have := (h.n h110).2
        rw [hm h110, decide_eq_false (show ¬ 0 < p.wid.toNat by omega), Bool.or_false, Bool.and_false]; rfl
      rw [decide_eq_false h5]; rfl
    have hst := h.st
    by_cases h91 : p.conv = 91
    · rw [if_pos h91] at hst
      obtain ⟨A, a1, a2⟩ := stL_print hst
      refine ⟨A, a2, fun cnt w pl n mute po z hm => ?_⟩
      rw [convC, hb mute hm, cond_false, if_pos h91]
      unfold pSet
      rw [if_pos h91, List.append_assoc, List.singleton_append, a1 z]
    rw [if_neg h91] at hst
    refine ⟨sempty, fun x hx => ((sEq_ext.1 hst) x hx).symm, fun cnt w pl n mute po z hm => ?_⟩
    rw [convC, hb mute hm, cond_false, if_neg h91]
    unfold pSet
    rw [if_neg h91, List.nil_append]
  obtain ⟨A, a1, a2⟩ := key
  refine ⟨A, a1, fun cnt w pl n mute po z hm => ⟨hd _, ?_⟩⟩
  unfold tailL
  rw [hd]
  simp only
  rw [modL_print hk h.cl, List.drop_left]
  exact a2 cnt w pl n mute po z hm
theorem pWid_eq (p : Pc) : pWid p = wTx p.wid.toNat := by
  unfold pWid wTx
  by_cases h : p.wid > 0
  · rw [if_pos h, if_pos (by omega)]
  rw [if_neg h, if_neg (by omega)]
theorem dnum_hd (n : Nat) : ∃ a t, dnum n = a :: t ∧ 48 ≤ a ∧ a ≤ 57 := by
  cases h : dnum n with
  | nil => rw [dnum] at h; split at h <;> simp at h
  | cons a t => exact ⟨a, t, rfl, dnum_lt n a (by rw [h]; exact List.mem_cons_self ..)⟩
theorem tl_hd {p : Pc} (h : CvF p) (y : List Nat) : ∃ a t, wTx p.wid.toNat ++ (lenAt p.len.toNat ++ p.conv :: y) = a :: t ∧ a ≠ 42 ∧ a ≠ 37 := by
  have hlen := slong_rng h.sl
  have hcn := conv_no h.cl
  unfold wTx
  split
  · obtain ⟨a, t, e, h1, h2⟩ := dnum_hd p.wid.toNat
    exact ⟨a, _, by rw [e]; rfl, by omega, by omega⟩
  cases e : lenAt p.len.toNat with
  | nil => exact ⟨p.conv, y, rfl, hcn.2.2.1, hcn.2.2.2⟩
  | cons a t =>
    have := lenAt_no _ (show p.len.toNat < 12 by omega) a (by rw [e]; exact List.mem_cons_self ..)
    exact ⟨a, _, rfl, this.2.2.1, this.2.2.2⟩
theorem pEq_of {p : Pc} {A : Nat → Bool} {n : Nat} (h : CvF p) (hA : ∀ x, x < 256 → A x = p.set x) (hn : (n : Int) = p.arg) : pEq p ⟨ByteArray.empty, (n : Int), ((p.wid.toNat : Nat) : Int), ((p.len.toNat : Nat) : Int), p.conv, A⟩ = true := by
  have hlen := slong_rng h.sl
  have hw := h.wid
  have hs : ∀ i, i < 4 → sw p.set i = sw A i := fun i hi => sw_congr fun j hj => (hA _ (by omega)).symm
  unfold pEq
  refine decide_eq_true ⟨?_, hn.symm, (Int.toNat_of_nonneg hw.1).symm, (Int.toNat_of_nonneg hlen.1).symm, rfl, hs 0 (by decide), hs 1 (by decide), hs 2 (by decide), hs 3 (by decide)⟩
  have := h.lit
  unfold sby at this
  rw [List.map_eq_nil_iff] at this
  rw [this]; rfl
theorem conv_print {p : Pc} (h : CvF p) (pos : Bool) (cnt : Nat) (w pl : Bool) (hA : p.arg = 0 → (w && pl) = false) (hB : p.arg ≠ 0 → pos = true → pl = false) (hC : p.arg ≠ 0 → pos = false → w = false ∧ p.arg = cnt + 1) :
    ∃ p', pEq p p' = true ∧ ∀ z, pieceL cnt w pl (sconv p pos ++ z) = .ok p' z (if p.arg = 0 ∨ pos = true then cnt else cnt + 1) (w || (!decide (p.arg = 0) && pos)) (pl || (!decide (p.arg = 0) && !pos)) := by
  obtain ⟨A, hAS, ht⟩ := tail_print h
  have harg := h.arg
  have hwd := h.wid
  have hw1 : decide (10000 < p.wid.toNat) = false := decide_eq_false (by omega)
  have hsc : sconv p pos = pHead p pos ++ (wTx p.wid.toNat ++ (lenAt p.len.toNat ++ p.conv :: pSet p)) := by
    unfold sconv
    rw [pWid_eq]; rfl
  have step : ∀ (r z q : List Nat) (n : Nat) (mute po : Bool) (P : Pc) (c' : Nat) (w' pl' : Bool), hdIs r 37 = false → argL r = (n, mute, po, wTx p.wid.toNat ++ (lenAt p.len.toNat ++ p.conv :: (pSet p ++ z))) → (p.conv = 110 → mute = false) → convE cnt w pl n mute po p.wid.toNat p.len.toNat p.conv A z = .ok P q c' w' pl' → pieceL cnt w pl (37 :: r) = .ok P q c' w' pl' := fun r z q n mute po P c' w' pl' h37 ha hm hE => by
    have hc : convL cnt w pl r = .ok P q c' w' pl' := by
      have : convL cnt w pl r = tailL cnt w pl n mute po (wTx p.wid.toNat ++ (lenAt p.len.toNat ++ p.conv :: (pSet p ++ z))) := by unfold convL tailL; rw [ha]
      rw [this, (ht cnt w pl n mute po z hm).2, hE]
    rw [pieceL, show swhite 37 = false from rfl, cond_false, if_pos rfl, h37, cond_false, hc]
  have asc : ∀ z, (wTx p.wid.toNat ++ (lenAt p.len.toNat ++ p.conv :: pSet p)) ++ z = wTx p.wid.toNat ++ (lenAt p.len.toNat ++ p.conv :: (pSet p ++ z)) := fun z => by simp only [List.append_assoc, List.cons_append]
  by_cases h0 : p.arg = 0
  · refine ⟨⟨ByteArray.empty, ((0 : Nat) : Int), ((p.wid.toNat : Nat) : Int), ((p.len.toNat : Nat) : Int), p.conv, A⟩, pEq_of h hAS (by omega), fun z => ?_⟩
    rw [hsc]
    unfold pHead
    rw [if_pos h0, if_pos (.inl h0), decide_eq_true h0, Bool.not_true, Bool.false_and, Bool.false_and, Bool.or_false, Bool.or_false, List.append_assoc, asc]
    refine step (42 :: (wTx p.wid.toNat ++ (lenAt p.len.toNat ++ p.conv :: (pSet p ++ z)))) z z 0 true false _ cnt w pl rfl rfl (fun e => absurd h0 (h.n e).1) ?_
    unfold convE
    rw [hw1, Bool.or_false, Bool.not_true, Bool.false_and, Bool.or_false, hA h0, cond_false, Bool.false_or]
    simp only [Bool.false_eq_true, if_false, Bool.or_false]
    rw [decide_eq_false (by omega), cond_false]
  cases hp : pos
  · obtain ⟨hw0, hc1⟩ := hC h0 hp
    refine ⟨⟨ByteArray.empty, ((cnt + 1 : Nat) : Int), ((p.wid.toNat : Nat) : Int), ((p.len.toNat : Nat) : Int), p.conv, A⟩, pEq_of h hAS (by omega), fun z => ?_⟩
    rw [← hp, hsc, hp]
    unfold pHead
    rw [if_neg h0, cond_false, if_neg (by intro e; rcases e with e | e; exact h0 e; cases e), decide_eq_false h0, Bool.not_false, Bool.true_and, Bool.true_and, Bool.or_false, Bool.or_true, List.append_assoc, asc]
    obtain ⟨a, t, e1, e2, e3⟩ := tl_hd h (pSet p ++ z)
    refine step (wTx p.wid.toNat ++ (lenAt p.len.toNat ++ p.conv :: (pSet p ++ z))) z z 0 false false _ (cnt + 1) w true (by rw [e1]; exact decide_eq_false e3) ?_ (fun _ => rfl) ?_
    · unfold argL
      rw [(ht cnt w pl 0 false false z (fun _ => rfl)).1]
      have g42 : hdIs (wTx p.wid.toNat ++ (lenAt p.len.toNat ++ p.conv :: (pSet p ++ z))) 42 = false := by rw [e1]; exact decide_eq_false e2
      have g36 : hdIs (lenAt p.len.toNat ++ p.conv :: (pSet p ++ z)) 36 = false := by
        cases e : lenAt p.len.toNat with
        | nil => exact decide_eq_false (conv_no h.cl).2.1
        | cons b s =>
          have hlen := slong_rng h.sl
          exact decide_eq_false (lenAt_no _ (show p.len.toNat < 12 by omega) b (by rw [e]; exact List.mem_cons_self ..)).2.1
      rw [g42]
      simp only
      rw [g36, Bool.and_false]; rfl
    subst hw0
    unfold convE
    rw [hw1]
    have : decide (64 < cnt + 1) = false := decide_eq_false (by omega)
    simp only [Bool.not_false, Bool.true_and, decide_true, Bool.or_false, Bool.false_and, cond_false, if_true, Bool.or_true]
    rw [this]; rfl
  have hpl := hB h0 hp
  refine ⟨⟨ByteArray.empty, ((p.arg.toNat : Nat) : Int), ((p.wid.toNat : Nat) : Int), ((p.len.toNat : Nat) : Int), p.conv, A⟩, pEq_of h hAS (by omega), fun z => ?_⟩
  rw [← hp, hsc, hp]
  unfold pHead
  rw [if_neg h0, cond_true, if_pos (.inr rfl), decide_eq_false h0, Bool.not_false, Bool.true_and, Bool.true_and, Bool.not_true, Bool.or_false, Bool.or_true, List.append_assoc, asc]
  obtain ⟨a, t, e1, e2, e3⟩ := dnum_hd p.arg.toNat
  have hd : dgL 0 (dnum p.arg.toNat ++ 36 :: (wTx p.wid.toNat ++ (lenAt p.len.toNat ++ p.conv :: (pSet p ++ z)))) = (p.arg.toNat, 36 :: (wTx p.wid.toNat ++ (lenAt p.len.toNat ++ p.conv :: (pSet p ++ z)))) := by
    rw [dgL_dnum _ _ (by omega) (by omega), dgL_nd _ _ (by unfold nodig; omega)]
  have eq : (37 :: dnum p.arg.toNat ++ [36]) ++ (wTx p.wid.toNat ++ (lenAt p.len.toNat ++ p.conv :: (pSet p ++ z))) = 37 :: (dnum p.arg.toNat ++ 36 :: (wTx p.wid.toNat ++ (lenAt p.len.toNat ++ p.conv :: (pSet p ++ z)))) := by simp only [List.append_assoc, List.cons_append, List.nil_append]
  rw [eq]
  refine step _ z z p.arg.toNat false true _ cnt true pl (by rw [e1]; exact decide_eq_false (by omega)) ?_ (fun _ => rfl) ?_
  · unfold argL
    have g42 : hdIs (dnum p.arg.toNat ++ 36 :: (wTx p.wid.toNat ++ (lenAt p.len.toNat ++ p.conv :: (pSet p ++ z)))) 42 = false := by rw [e1]; exact decide_eq_false (by omega)
    rw [g42, hd]
    simp only
    rw [decide_eq_true (show 0 < p.arg.toNat by omega)]; rfl
  subst hpl
  unfold convE
  rw [hw1]
  have h1 : decide (p.arg.toNat = 0) = false := decide_eq_false (by omega)
  have h2 : decide (64 < p.arg.toNat) = false := decide_eq_false (by omega)
  simp only [h1, Bool.and_false, Bool.or_false, Bool.false_eq_true, if_false, Bool.or_true, cond_false]
  rw [h2]; rfl
end Go.V
set_option maxHeartbeats 1000000
set_option maxRecDepth 100000
namespace Go.V
open Go.RowKit Go.Proofs
/-! A LIST's TEXT, READ AGAIN. -/
theorem cells_pEq {p q : Pc} (h : pEq p q = true) : q.cells = p.cells := by
  unfold pEq at h
  obtain ⟨h1, h2, h3, h4, h5, a0, a1, a2, a3⟩ := of_decide_eq_true h
  have e : q.lit = p.lit := by
    apply ByteArray.ext
    apply Array.ext'
    exact h1.symm
  unfold Pc.cells
  rw [e, h2, h3, h4, h5, a0, a1, a2, a3]
theorem plain_print {p : Pc} (hv : svalid p = true) (hs : spl p = true) (pos : Bool) (cnt : Nat) (w pl : Bool) : p.arg = 0 ∧ ∃ p', pEq p p' = true ∧ ∀ z, folw p.conv z → pieceL cnt w pl (sby (sprn p pos) ++ z) = .ok p' z cnt w pl := by
  unfold svalid at hv
  rw [hs, cond_true] at hv
  simp only [Bool.and_eq_true, Bool.or_eq_true, decide_eq_true_eq, Bool.not_eq_true', decide_eq_false_iff_not] at hv
  obtain ⟨⟨⟨⟨ha, hw⟩, hn⟩, hset⟩, hl⟩ := hv
  refine ⟨ha, ?_⟩
  have hE : ∀ (s : ByteArray), s = p.lit → pEq p (bareP s 0 0 0 p.conv) = true := fun s e => by
    unfold sEq at hset
    obtain ⟨a0, a1, a2, a3⟩ := of_decide_eq_true hset
    unfold pEq
    exact decide_eq_true ⟨by rw [e], ha, hw, hn, rfl, a0, a1, a2, a3⟩
  have hemp : p.conv ≠ 0 → ByteArray.empty = p.lit := fun h0 => by
    rcases hl with hl | hl
    · exact absurd hl.1 h0
    have := bytesOf_sby p.lit
    rw [hl.2] at this; exact this
  by_cases h32 : p.conv = 32
  · refine ⟨bareP ByteArray.empty 0 0 0 p.conv, hE _ (hemp (by omega)), fun z hz => ?_⟩
    have : sby (sprn p pos) = [32] := by unfold sprn; rw [if_pos h32]; rfl
    rw [this]
    have hru := runL_of (f := swhite) [32] z (fun c hc => by rw [List.mem_singleton] at hc; subst hc; rfl) (fun a t e => (hz a t e).1 h32)
    rw [List.singleton_append] at hru ⊢
    rw [pieceL, show swhite 32 = true from rfl, cond_true, hru, h32]
  by_cases h0 : p.conv = 0
  · rcases hl with hl | hl
    · refine ⟨bareP p.lit 0 0 0 p.conv, hE _ rfl, fun z hz => ?_⟩
      have : sby (sprn p pos) = sby p.lit := by unfold sprn; rw [if_neg h32, if_pos h0]
      rw [this]
      have hsl := hl.2
      unfold slit at hsl
      rw [Bool.and_eq_true, decide_eq_true_eq, List.all_eq_true] at hsl
      obtain ⟨hs1, hs2⟩ := hsl
      have hru := runL_of (f := splain) (sby p.lit) z hs2 (fun a t e => ((hz a t e).2 h0).1)
      have hz0 : hdIs z 0 = false := by
        cases z with
        | nil => rfl
        | cons a t => exact decide_eq_false ((hz a t rfl).2 h0).2
      have hbl := bytesOf_sby p.lit
      have hsl := sby_len p.lit
      cases hx : sby p.lit with
      | nil => rw [hx] at hsl; simp only [List.length_nil] at hsl; omega
      | cons c r =>
        have hc := hs2 c (by rw [hx]; exact List.mem_cons_self ..)
        unfold splain at hc
        simp only [Bool.and_eq_true, decide_eq_true_eq, Bool.not_eq_true'] at hc
        rw [hx] at hru hbl
        rw [List.cons_append] at hru ⊢
        rw [pieceL, hc.2.2, cond_false, if_neg hc.2.1, hru]
        simp only
        rw [hz0, cond_false, hbl, h0]
    exact absurd h0 hl.1
  have h37 : p.conv = 37 := by
    unfold spl at hs
    simp only [Bool.or_eq_true, decide_eq_true_eq] at hs
    omega
  refine ⟨bareP ByteArray.empty 0 0 0 p.conv, hE _ (hemp h0), fun z _ => ?_⟩
  have : sby (sprn p pos) = [37, 37] := by unfold sprn; rw [if_neg h32, if_neg h0, if_pos h37]; rfl
  rw [this, h37]; rfl
theorem sconv_lt {p : Pc} (h : CvF p) (pos : Bool) : ∀ c ∈ sconv p pos, c < 256 := by
  have hlen := slong_rng h.sl
  have hd : ∀ n c, c ∈ dnum n → c < 256 := fun n c hc => by have := dnum_lt n c hc; omega
  have hl : ∀ k, k < 12 → ∀ c ∈ lenAt k, c < 256 := by decide
  have hcl := classF_mem p.conv h.cl
  intro c hc
  unfold sconv at hc
  rw [List.mem_append, List.mem_append, List.mem_append, List.mem_append] at hc
  rcases hc with hc | hc | hc | hc | hc
  · unfold pHead at hc
    split at hc
    · simp only [List.mem_cons, List.not_mem_nil, or_false] at hc; omega
    cases pos
    · have hc : c ∈ [37] := hc
      rw [List.mem_singleton] at hc; omega
    have hc : c ∈ (37 :: dnum p.arg.toNat) ++ [36] := hc
    rw [List.mem_append, List.mem_cons, List.mem_singleton] at hc
    rcases hc with (hc | hc) | hc
    · omega
    · exact hd _ _ hc
    omega
  · unfold pWid at hc
    split at hc
    · exact hd _ _ hc
    cases hc
  · exact hl _ (by omega) c hc
  · rw [List.mem_singleton] at hc
    subst hc
    simp only [List.mem_cons, List.not_mem_nil, or_false] at hcl
    omega
  unfold pSet at hc
  split at hc
  · rw [List.mem_append, List.mem_singleton] at hc
    exact hc.elim (setTx_lt _ c) (fun e => by omega)
  cases hc
theorem sprn_conv {p : Pc} (h : CvF p) (hs : spl p = false) (pos : Bool) : sby (sprn p pos) = sconv p pos := by
  unfold spl at hs
  simp only [Bool.or_eq_false_iff, decide_eq_false_iff_not] at hs
  unfold sprn
  rw [if_neg hs.1.1, if_neg hs.1.2, if_neg hs.2]
  exact sby_bytesOf (sconv_lt h pos)
theorem piece_print {p : Pc} (hv : svalid p = true) (pos : Bool) (cnt : Nat) (w pl : Bool) (hA : p.arg = 0 → spl p = false → (w && pl) = false) (hB : p.arg ≠ 0 → pos = true → pl = false) (hC : p.arg ≠ 0 → pos = false → w = false ∧ p.arg = cnt + 1) :
    ∃ p', pEq p p' = true ∧ ∀ z, folw p.conv z → pieceL cnt w pl (sby (sprn p pos) ++ z) = .ok p' z (if p.arg = 0 ∨ pos = true then cnt else cnt + 1) (w || (!decide (p.arg = 0) && pos)) (pl || (!decide (p.arg = 0) && !pos)) := by
  cases hs : spl p
  · have h := svalid_cvf hv hs
    obtain ⟨p', h1, h2⟩ := conv_print h pos cnt w pl (fun e => hA e hs) hB hC
    refine ⟨p', h1, fun z _ => ?_⟩
    rw [sprn_conv h hs]; exact h2 z
  obtain ⟨ha, p', h1, h2⟩ := plain_print hv hs pos cnt w pl
  refine ⟨p', h1, fun z hz => ?_⟩
  rw [h2 z hz, if_pos (.inl ha), decide_eq_true ha, Bool.not_true, Bool.false_and, Bool.false_and, Bool.or_false, Bool.or_false]
theorem sprn_hd {q : Pc} (hv : svalid q = true) (pos : Bool) : ∃ a t, sby (sprn q pos) = a :: t ∧ (q.conv = 32 → a = 32) ∧ (q.conv = 0 → splain a = true) ∧ (q.conv ≠ 32 → q.conv ≠ 0 → a = 37) := by
  cases hs : spl q
  · have h := svalid_cvf hv hs
    have hcl := sclass_plain h.cl
    rw [sprn_conv h hs]
    have : ∃ t, sconv q pos = 37 :: t := by
      unfold sconv pHead
      split
      · exact ⟨_, rfl⟩
      cases pos <;> exact ⟨_, rfl⟩
    obtain ⟨t, ht⟩ := this
    exact ⟨37, t, ht, fun e => absurd e hcl.2.1, fun e => absurd e hcl.1, fun _ _ => rfl⟩
  by_cases h32 : q.conv = 32
  · exact ⟨32, [], by unfold sprn; rw [if_pos h32]; rfl, fun _ => rfl, fun e => by omega, fun e => absurd h32 e⟩
  by_cases h0 : q.conv = 0
  · unfold svalid at hv
    rw [hs, cond_true] at hv
    simp only [Bool.and_eq_true, Bool.or_eq_true, decide_eq_true_eq, Bool.not_eq_true', decide_eq_false_iff_not] at hv
    rcases hv.2 with hl | hl
    · have hsl := hl.2
      unfold slit at hsl
      rw [Bool.and_eq_true, decide_eq_true_eq, List.all_eq_true] at hsl
      have hl := sby_len q.lit
      cases hx : sby q.lit with
      | nil => rw [hx] at hl; simp only [List.length_nil] at hl; omega
      | cons a t => exact ⟨a, t, by unfold sprn; rw [if_neg h32, if_pos h0]; exact hx, fun e => absurd e h32, fun _ => hsl.2 a (by rw [hx]; exact List.mem_cons_self ..), fun _ e => absurd h0 e⟩
    exact absurd h0 hl.1
  have h37 : q.conv = 37 := by
    unfold spl at hs
    simp only [Bool.or_eq_true, decide_eq_true_eq] at hs
    omega
  exact ⟨37, [37], by unfold sprn; rw [if_neg h32, if_neg h0, if_pos h37]; rfl, fun e => absurd e h32, fun e => absurd e h0, fun _ _ => rfl⟩
def chn : List Pc → Prop
  | p :: q :: r => ¬ (q.conv = p.conv ∧ (q.conv = 0 ∨ q.conv = 32)) ∧ chn (q :: r)
  | _ => True
def txs (pos : Bool) : List Pc → List Nat
  | [] => []
  | p :: l => sby (sprn p pos) ++ txs pos l
theorem txs_folw {pos : Bool} {p : Pc} {l : List Pc} (hc : chn (p :: l)) (hv : ∀ q ∈ l, svalid q = true) : folw p.conv (txs pos l) := by
  intro a t e
  cases l with
  | nil => cases e
  | cons q r =>
    obtain ⟨b, s, h1, h2, h3, h4⟩ := sprn_hd (hv q (List.mem_cons_self ..)) pos
    have e : sby (sprn q pos) ++ txs pos r = a :: t := e
    rw [h1] at e
    injection e with e _
    subst e
    have hcq := hc.1
    refine ⟨fun e => ?_, fun e => ?_⟩
    · have hq : q.conv ≠ 32 := fun e2 => hcq ⟨by rw [e2, e], .inr e2⟩
      by_cases h0 : q.conv = 0
      · have := h3 h0
        unfold splain at this
        simp only [Bool.and_eq_true, Bool.not_eq_true'] at this
        exact this.2.2
      rw [h4 hq h0]; rfl
    have hq : q.conv ≠ 0 := fun e2 => hcq ⟨by rw [e2, e], .inl e2⟩
    by_cases h32 : q.conv = 32
    · rw [h2 h32]; exact ⟨rfl, by decide⟩
    rw [h4 h32 hq]; exact ⟨rfl, by decide⟩
theorem list_print : ∀ (l : List Pc) (pos : Bool) (m cnt : Nat) (w pl : Bool) (f : Nat), m + l.length ≤ 500 → (∀ p ∈ l, svalid p = true) → chn l → (pos = true → pl = false) → (pos = false → w = false ∧ sord l (cnt : Int) = true) → (txs pos l).length < f →
    ∃ l', l'.map Pc.cells = l.map Pc.cells ∧ prsG f m cnt w pl (txs pos l) = (l', 0, [])
  | [], pos, m, cnt, w, pl, f, _, _, _, _, _, hf => by
    obtain ⟨g, rfl⟩ : ∃ g, f = g + 1 := ⟨f - 1, by omega⟩
    exact ⟨[], rfl, by show prsG (g + 1) m cnt w pl [] = _; rw [prsG, if_pos rfl]⟩
  | p :: l, pos, m, cnt, w, pl, f, hm, hv, hc, hT, hF, hf => by
    have hvp := hv p (List.mem_cons_self ..)
    have hrg := svalid_rng hvp
    have hvl : ∀ q ∈ l, svalid q = true := fun q hq => hv q (List.mem_cons_of_mem _ hq)
    obtain ⟨a, t, hhd, _⟩ := sprn_hd hvp pos
    rw [List.length_cons] at hm
    have hf' : (sby (sprn p pos) ++ txs pos l).length < f := hf
    rw [List.length_append, hhd, List.length_cons] at hf'
    obtain ⟨g, rfl⟩ : ∃ g, f = g + 1 := ⟨f - 1, by omega⟩
    have hne : sby (sprn p pos) ++ txs pos l ≠ [] := by rw [hhd]; exact fun e => by cases e
    have hord : pos = false → p.arg ≠ 0 → p.arg = cnt + 1 ∧ sord l ((cnt : Int) + 1) = true := fun h e => by
      have := (hF h).2
      rw [sord, if_pos (by omega)] at this
      split at this
      · rename_i e2; exact ⟨e2, this⟩
      cases this
    have hord0 : pos = false → p.arg = 0 → sord l (cnt : Int) = true := fun h e => by
      have := (hF h).2
      rw [sord, if_neg (by omega)] at this
      exact this
    obtain ⟨p', h1, h2⟩ := piece_print hvp pos cnt w pl (fun _ _ => by
        cases hp : pos
        · rw [(hF hp).1]; rfl
        rw [hT hp, Bool.and_false]) (fun _ => hT) (fun e h => ⟨(hF h).1, (hord h e).1⟩)
    obtain ⟨l', h3, h4⟩ := list_print l pos (m + 1) (if p.arg = 0 ∨ pos = true then cnt else cnt + 1) (w || (!decide (p.arg = 0) && pos)) (pl || (!decide (p.arg = 0) && !pos)) g (by omega) hvl (by cases l with
        | nil => trivial
        | cons q r => exact hc.2) (fun h => by rw [hT h, h, Bool.not_true, Bool.and_false]; rfl) (fun h => by
        refine ⟨by rw [(hF h).1, h, Bool.and_false]; rfl, ?_⟩
        by_cases e : p.arg = 0
        · rw [if_pos (.inl e)]; exact hord0 h e
        rw [if_neg (by rintro (x | x); exact e x; rw [h] at x; cases x)]
        have := (hord h e).2
        rwa [show ((cnt + 1 : Nat) : Int) = (cnt : Int) + 1 from rfl]) (by omega)
    refine ⟨p' :: l', ?_, ?_⟩
    · rw [List.map_cons, List.map_cons, h3, cells_pEq h1]
    show prsG (g + 1) m cnt w pl (sby (sprn p pos) ++ txs pos l) = _
    rw [prsG, if_neg hne, if_neg (by omega), h2 _ (txs_folw hc hvl)]
    simp only
    rw [h4]
theorem schk_nb {l : List Pc} (i : Nat) (h : (schk l i).1 = 0) : (∀ j, i ≤ j → j < l.length → sbad l j = false) ∧ (sgr l).2 = true := by
  by_cases hi : i < l.length
  · cases hb : sbad l i
    · rw [schk_go hi hb] at h
      obtain ⟨a, b⟩ := schk_nb (i + 1) h
      refine ⟨fun j h1 h2 => ?_, b⟩
      rcases Nat.eq_or_lt_of_le h1 with rfl | g
      · exact hb
      exact a j g h2
    rw [schk_bad hi hb] at h; cases h
  rw [schk_end hi] at h
  refine ⟨fun j h1 h2 => by omega, ?_⟩
  cases hs : (sgr l).2
  · rw [hs, cond_false] at h; cases h
  rfl
termination_by l.length - i
theorem chn_of : ∀ (l : List Pc), (∀ j, 0 < j → j < l.length → ¬ ((l.getD j pcZ).conv = (l.getD (j - 1) pcZ).conv ∧ ((l.getD j pcZ).conv = 0 ∨ (l.getD j pcZ).conv = 32))) → chn l
  | [], _ => trivial
  | [p], _ => trivial
  | p :: q :: r, h => by
    refine ⟨h 1 (by decide) (by simp only [List.length_cons]; omega), chn_of (q :: r) fun j h1 h2 => ?_⟩
    have := h (j + 1) (by omega) (by rw [List.length_cons]; omega)
    obtain ⟨k, rfl⟩ : ∃ k, j = k + 1 := ⟨j - 1, by omega⟩
    exact this
theorem sby_sprs (pos : Bool) : ∀ (l : List Pc) (s : ByteArray), sby (l.foldl (fun a p => a ++ sprn p pos) s) = sby s ++ txs pos l
  | [], s => by rw [List.foldl_nil]; show sby s = sby s ++ []; rw [List.append_nil]
  | p :: l, s => by
    rw [List.foldl_cons, sby_sprs pos l, sby_append, List.append_assoc]; rfl
def argOf : List D → Int
  | _ :: .int _ a :: _ => a
  | _ => 0
theorem args_cells {l l' : List Pc} (h : l'.map Pc.cells = l.map Pc.cells) : l'.map Pc.arg = l.map Pc.arg := by
  have := congrArg (List.map argOf) h
  rw [List.map_map, List.map_map] at this
  exact this
theorem sall_congr {l l' : List Pc} (h : ∀ n, sused l n = sused l' n) (m k : Nat) : sall l m k = sall l' m k := by
  by_cases hk : k ≤ m
  · rw [sall, if_pos hk]
    rw [sall_congr h m (k + 1), h]
    conv => rhs; rw [sall, if_pos hk]
  rw [sall_end hk, sall_end hk]
termination_by m + 1 - k
theorem smost_arg : ∀ (l : List Pc) (m : Int), smost l m = (l.map Pc.arg).foldl max m
  | [], _ => rfl
  | p :: l, m => by rw [smost, smost_arg l]; rfl
theorem sgr_cells {l l' : List Pc} (h : l'.map Pc.cells = l.map Pc.cells) : sgr l' = sgr l := by
  have ha := args_cells h
  have hu : ∀ n, sused l' n = sused l n := fun n => by
    have e : ∀ x : List Pc, sused x n = (x.map Pc.arg).any fun a => decide (a = n) := fun x => by unfold sused; rw [List.any_map]; rfl
    rw [e, e, ha]
  unfold sgr
  rw [smost_arg, smost_arg, ha, sall_congr hu]
theorem slP_cells {l l' : List Pc} (h : l'.map Pc.cells = l.map Pc.cells) : slP l' = slP l := by
  have hl : l'.length = l.length := by have := congrArg List.length h; simpa using this
  have hp : pcs l' = pcs l := by
    show l'.flatMap Pc.cells = l.flatMap Pc.cells
    rw [List.flatMap_def, List.flatMap_def, h]
  show D.sl l'.length (pcs l') = D.sl l.length (pcs l)
  rw [hl, hp]
theorem print_back {l : List Pc} (hc : (scheck l).1 = 0) (hp : (sPrint l).2 = 0) : ∃ l', parseF (sPrint l).1 = (l', 0, 0) ∧ slP l' = slP l := by
  unfold sPrint at hp ⊢
  rw [if_pos hc] at hp ⊢
  by_cases hs : 2000 < (sprs l (!sord l 0)).size
  · rw [if_pos hs] at hp; cases hp
  rw [if_neg hs]
  have hsc : l.length ≤ 500 ∧ (schk l 0).1 = 0 := by
    unfold scheck at hc
    split at hc
    · cases hc
    exact ⟨by omega, hc⟩
  obtain ⟨nb, sg⟩ := schk_nb 0 hsc.2
  have hv : ∀ p ∈ l, svalid p = true := fun p hp => by
    obtain ⟨i, hi, e⟩ := List.getElem_of_mem hp
    have := nb i (Nat.zero_le _) hi
    unfold sbad at this
    rw [Bool.or_eq_false_iff, Bool.not_eq_false', List.getD_eq_getElem?_getD, List.getElem?_eq_getElem hi] at this
    rw [← e]; exact this.1
  have hch : chn l := chn_of l fun j h1 h2 h3 => by
    have := nb j (Nat.zero_le _) h2
    unfold sbad sadj at this
    rw [Bool.or_eq_false_iff] at this
    have h4 := this.2
    rw [decide_eq_true h1, decide_eq_true h3.1, Bool.true_and, Bool.true_and, ← Bool.decide_or, decide_eq_true h3.2] at h4
    cases h4
  have hsb : sby (sprs l (!sord l 0)) = txs (!sord l 0) l := by
    unfold sprs
    rw [sby_sprs]; rfl
  have hlen := sby_len (sprs l (!sord l 0))
  rw [hsb] at hlen
  obtain ⟨l', h1, h2⟩ := list_print l (!sord l 0) 0 0 false false ((sprs l (!sord l 0)).size + 1) (by omega) hv hch (fun _ => rfl) (fun h => ⟨rfl, by
    cases e : sord l 0
    · rw [e] at h; cases h
    rfl⟩) (by omega)
  refine ⟨l', ?_, slP_cells h1⟩
  show parseF (sprs l (!sord l 0)) = _
  rw [parse_G (by omega), hsb, h2]
  simp only [if_true]
  rw [sgr_cells h1, sg]; rfl
end Go.V
set_option maxHeartbeats 8000000
set_option maxRecDepth 100000
set_option synthInstance.maxSize 100000
set_option synthInstance.maxHeartbeats 2000000
namespace Go.V
open Go.RowKit Go.Proofs
theorem ssame_rfl : ∀ (l : List Pc), ssame l l = true
  | [] => rfl
  | p :: l => by rw [ssame, pEq_rfl, ssame_rfl l]; rfl
theorem sPrint_err {l : List Pc} (h : (scheck l).1 ≠ 0) : sPrint l = (ByteArray.empty, (scheck l).1) := by unfold sPrint; rw [if_neg h]
theorem sPrint_lim {l : List Pc} (h : (scheck l).1 = 0) (h2 : (sPrint l).2 ≠ 0) : (sPrint l).2 = 2 := by
  unfold sPrint at h2 ⊢
  rw [if_pos h] at h2 ⊢
  split at h2
  · rename_i g; rw [if_pos g]
  exact absurd rfl h2
theorem ScanBack_bad (l : List Pc) (hf : ∀ p ∈ l, PcF p) (hs : ∀ p ∈ l, p.lit.size ≤ 1048576) (hl : l.length ≤ 1048576) (hc : (scheck l).1 ≠ 0) : PC Cg ZaQ [slP l] (fun o => o = .ret (.bool true)) := by
  have c1 := Zbs l hf (by omega)
  have c3 := ZcO l hf hs (by omega)
  rw [sPrint_err hc] at c3
  simp only at c3
  generalize scheck l = K1 at c1 c3 hc
  obtain ⟨a1, b1⟩ := K1
  simp only at c1 c3 hc
  refine PC.rn ZaJ Zbc Zbd (rs := [.tmp 2]) (by rw [Zbe]) ?_
  refine ARun.seq (ARun.region ?_); refine zza ?_; refine AOps.nil (ARun.seq (ARun.region ?_))
  refine zzc rfl rfl (ZeD) ?_
  refine zza ?_; refine AOps.nil (ARun.seq (ARun.region ?_)); refine zzm ?_
  refine zzc rfl rfl (c1) ?_
  refine zzm ?_; refine zze ?_; refine zze ?_; refine zza ?_; refine zza ?_; refine AOps.nil (ARun.seq (ARun.region ?_)); refine zzm ?_
  refine zzc rfl rfl (c3) ?_
  refine zzm ?_; refine zze ?_; refine zze ?_; refine zza ?_; refine zza ?_; refine AOps.nil (ARun.seq (ARun.seq (ARun.region ?_))); refine zzm ?_
  refine y_op rfl (OpQ.cast (d' := .bool true) (q_int rfl rfl rfl) (congrArg D.bool (show (a1 != 0) = true from bne_iff_ne.2 hc))) ?_
  refine AOps.nil ?_
  refine ARun.condT rfl ?_
  refine ARun.seq (ARun.region ?_); refine zzm ?_; refine zzm ?_; refine zzm ?_; refine zzm ?_
  refine y_op rfl (OpQ.cast (d' := .bool true) (q_int rfl rfl rfl) (congrArg D.bool (show (a1 == a1) = true from by simp))) ?_
  refine zzp ?_; refine zzm ?_; refine zzm ?_
  refine y_op rfl (OpQ.cast (d' := .bool true) (Zeh rfl rfl) (congrArg D.bool (by rw [str_eq]; exact decide_eq_true rfl))) ?_
  refine zzp ?_; refine zza ?_; refine AOps.nil ?_
  refine ARun.ret ?_
  refine ⟨_, _, _, .tmp rfl .nil, .cons (.same _) .nil, rfl, ?_⟩
  rfl
theorem ScanBack_lim (l : List Pc) (hf : ∀ p ∈ l, PcF p) (hs : ∀ p ∈ l, p.lit.size ≤ 1048576) (hl : l.length ≤ 1048576) (hc : (scheck l).1 = 0) (h2 : (sPrint l).2 = 2) : PC Cg ZaQ [slP l] (fun o => o = .ret (.bool true)) := by
  have c1 := Zbs l hf (by omega)
  have c3 := ZcO l hf hs (by omega)
  rw [hc] at c1
  rw [h2] at c3
  refine PC.rn ZaJ Zbc Zbd (rs := [.tmp 2]) (by rw [Zbe]) ?_
  refine ARun.seq (ARun.region ?_); refine zza ?_; refine AOps.nil (ARun.seq (ARun.region ?_))
  refine zzc rfl rfl (ZeD) ?_
  refine zza ?_; refine AOps.nil (ARun.seq (ARun.region ?_)); refine zzm ?_
  refine zzc rfl rfl (c1) ?_
  refine zzm ?_; refine zze ?_; refine zze ?_; refine zza ?_; refine zza ?_; refine AOps.nil (ARun.seq (ARun.region ?_)); refine zzm ?_
  refine zzc rfl rfl (c3) ?_
  refine zzm ?_; refine zze ?_; refine zze ?_; refine zza ?_; refine zza ?_; refine AOps.nil (ARun.seq (ARun.seq (ARun.region ?_))); refine zzm ?_; refine zzi ?_; refine AOps.nil ?_
  refine ARun.condF rfl ?_
  refine ARun.skip (ARun.seq (ARun.seq (ARun.region ?_))); refine zzm ?_; refine zzi ?_; refine AOps.nil ?_
  refine ARun.condT rfl ?_
  refine ARun.seq (ARun.region ?_); refine zzm ?_; refine zzm ?_; refine zzm ?_; refine zzi ?_; refine zzp ?_; refine zza ?_; refine AOps.nil ?_
  refine ARun.ret ?_
  refine ⟨_, _, _, .tmp rfl .nil, .cons (.same _) .nil, rfl, ?_⟩
  rfl
theorem ScanBack_ok (l : List Pc) (hf : ∀ p ∈ l, PcF p) (hs : ∀ p ∈ l, p.lit.size ≤ 1048576) (hl : l.length ≤ 1048576) (hc : (scheck l).1 = 0) (h2 : (sPrint l).2 = 0) : PC Cg ZaQ [slP l] (fun o => o = .ret (.bool true)) := by
  have c1 := Zbs l hf (by omega)
  have c3 := ZcO l hf hs (by omega)
  obtain ⟨l', h3, h4⟩ := print_back hc h2
  have c4 := ZcP (sPrint l).1
  rw [h3] at c4
  simp only at c4
  rw [h4] at c4
  rw [hc] at c1
  rw [h2] at c3
  have c5 := PC.g (ZfU l l hf hf (by omega))
  rw [ssame_rfl] at c5
  refine PC.rn ZaJ Zbc Zbd (rs := [.tmp 2]) (by rw [Zbe]) ?_
  refine ARun.seq (ARun.region ?_); refine zza ?_; refine AOps.nil (ARun.seq (ARun.region ?_))
  refine zzc rfl rfl (ZeD) ?_
  refine zza ?_; refine AOps.nil (ARun.seq (ARun.region ?_)); refine zzm ?_
  refine zzc rfl rfl (c1) ?_
  refine zzm ?_; refine zze ?_; refine zze ?_; refine zza ?_; refine zza ?_; refine AOps.nil (ARun.seq (ARun.region ?_)); refine zzm ?_
  refine zzc rfl rfl (c3) ?_
  refine zzm ?_; refine zze ?_; refine zze ?_; refine zza ?_; refine zza ?_; refine AOps.nil (ARun.seq (ARun.seq (ARun.region ?_))); refine zzm ?_; refine zzi ?_; refine AOps.nil ?_
  refine ARun.condF rfl ?_
  refine ARun.skip (ARun.seq (ARun.seq (ARun.region ?_))); refine zzm ?_; refine zzi ?_; refine AOps.nil ?_
  refine ARun.condF rfl ?_
  refine ARun.skip (ARun.seq (ARun.region ?_)); refine zzm ?_
  refine zzc rfl rfl (c4) ?_
  refine zzm ?_; refine zze ?_; refine zze ?_; refine zze ?_; refine zza ?_; refine zza ?_; refine zza ?_; refine AOps.nil (ARun.seq (ARun.region ?_)); refine zzm ?_; refine zzm ?_; refine zzm ?_; refine zzi ?_; refine zzp ?_; refine zzm ?_; refine zzm ?_; refine zzi ?_; refine zzp ?_; refine zzm ?_; refine zzm ?_; refine zzm ?_
  refine zzc rfl rfl (c5) ?_
  refine zzp ?_; refine zza ?_; refine AOps.nil ?_
  refine ARun.ret ?_
  refine ⟨_, _, _, .tmp rfl .nil, .cons (.same _) .nil, rfl, ?_⟩
  rfl
theorem Ze1 (l : List Pc) (hf : ∀ p ∈ l, PcF p) (hs : ∀ p ∈ l, p.lit.size ≤ 1048576) (hl : l.length ≤ 1048576) : PC Cg ZaQ [slP l] (fun o => o = .ret (.bool true)) := by
  by_cases hc : (scheck l).1 = 0
  · by_cases h2 : (sPrint l).2 = 0
    · exact ScanBack_ok l hf hs hl hc h2
    exact ScanBack_lim l hf hs hl hc (sPrint_lim hc h2)
  exact ScanBack_bad l hf hs hl hc
end Go.V
/- THE ROWS: what the arguments read as, and what is left behind a call. -/
set_option maxRecDepth 100000
namespace Go.V
open Go.RowKit Go.Proofs Go.ChangeShapes Go.WideShapes Go.ChangeAt Go.ChangeMaps Go.Proofs.YthankfodgdfgaaaDoor
theorem laidOutZ : laidOutB Tryd.prog = true := by kernel_rfl
theorem ownZ : ownKnob Tryd.prog.godebug = none := by kernel_rfl
theorem cell_lt {w : World} {a : Addr} {v : Value} (h : w.cell? a = some v) : a.block < w.heap.size := by
  apply Classical.byContradiction
  intro hn
  have : w.heap[a.block]? = none := by rw [Array.getElem?_eq_none_iff]; omega
  simp [World.cell?, this] at h
theorem forb0 : forb (fun _ => False) [] [] = fun _ => False := by
  funext b
  apply propext
  constructor
  · rintro (h | ⟨i, o, h, _⟩)
    · exact h
    simp at h
  exact fun h => h.elim
section
variable {H : Type} {enc : TypeId × Value → H} {W : World}
theorem trodAll_stays {W' : World} (hb : Below W.heap.size W W') {sp : Nat → Bool} : ∀ {ts : List TypeId} {vs : List Value} {ds : List (DataW H)} {p : List MemPlace}, (∀ t ∈ ts, Tryd.prog.readableRec t = true ∧ t < Tryd.prog.types.size) →
    DataW.TrodAll enc Tryd.prog W 0 (fun _ => true) true ts vs ds p → (∀ x ∈ p, x.block < W.heap.size ∧ sp x.block = true) → DataW.TrodAll enc Tryd.prog W' 0 sp true ts vs ds p
  | [], _, _, _, _, h, _ => by
    obtain ⟨rfl, rfl, rfl⟩ := trodAll_nil h
    simp [DataW.TrodAll]
  | t :: ts, _, _, _, ht, h, hp => by
    obtain ⟨v, vs, d, ds, a, b, rfl, rfl, rfl, h1, h2⟩ := trodAll_cons h
    obtain ⟨r1, r2⟩ := ht t (List.mem_cons_self ..)
    exact ⟨a, b, WideElems.Trod_stays laidOutZ r1 r2 h1 (fun x hx => hb.same (hp x (List.mem_append_left _ hx)).1) (fun x hx => (hp x (List.mem_append_left _ hx)).2),
      trodAll_stays hb (fun t ht' => ht t (List.mem_cons_of_mem _ ht')) h2 (fun x hx => hp x (List.mem_append_right _ hx)), rfl⟩
theorem law_post {fn : Func} {s : ChangeSpec} {W' : World} {args : Array Value} {ds : List (DataW H)} {before : List MemPlace} (hs : s.vars = []) (hW : DataW.Whole enc Tryd.prog fn.params.toList s.vars false W args.toList ds [] before) (hf : s.fn H ds = { results := [.lit (.bool true)], args := ds })
    (hr : fn.resultTypes = #[4]) (hts : ∀ t ∈ fn.params.toList, Tryd.prog.readableRec t = true ∧ t < Tryd.prog.types.size) (hb : Below W.heap.size W W') : s.post enc Tryd.prog fn false true false false W args (.bool true) W' := by
  have hW' := hW
  obtain ⟨p, q, hA, hV, rfl, _, _⟩ := hW
  rw [hs] at hV
  obtain ⟨_, rfl⟩ := trodVars_none hV
  have hlt : ∀ x ∈ p, x.block < W.heap.size := fun x hx => by simpa using hW'.lt x (List.mem_append_left _ hx)
  refine ⟨ds, [], p ++ [], [], p, [], hW', ?_, ?_, ?_, hb.frame _, fun h => by cases h⟩
  · rw [List.append_nil, hf, hr]
    exact trodAll_mk1 (shut_bool Tryd.underlying4 _)
  · rw [List.append_nil, hf]
    exact trodAll_stays hb hts hA fun x hx => ⟨hlt x hx, by simpa using hlt x hx⟩
  rw [List.append_nil, hf, hs]
  rfl
end
/-! THE TABLES, AS THEY LIE. -/
inductive F2 {A B : Type} (R : A → B → Prop) : List A → List B → Prop where
  | nil : F2 R [] []
  | cons {a : A} {b : B} {xs : List A} {ys : List B} : R a b → F2 R xs ys → F2 R (a :: xs) (b :: ys)
theorem F2.pull {A B : Type} {R : A → B → Prop} {ys zs : List B} (h : ys.Perm zs) : ∀ {xs : List A}, F2 R xs ys → ∃ l : List A, l.Perm xs ∧ F2 R l zs := by
  induction h with
  | nil => intro xs h; exact ⟨xs, .refl _, h⟩
  | cons b _ ih =>
    intro xs h
    cases h with
    | cons h1 h2 =>
      obtain ⟨l, p, q⟩ := ih h2
      exact ⟨_ :: l, p.cons _, .cons h1 q⟩
  | swap a b l =>
    intro xs h
    cases h with
    | cons h1 h2 =>
      cases h2 with
      | cons h3 h4 => exact ⟨_, .swap .., .cons h3 (.cons h1 h4)⟩
  | trans _ _ ih1 ih2 =>
    intro xs h
    obtain ⟨l, p, q⟩ := ih1 h
    obtain ⟨l2, p2, q2⟩ := ih2 q
    exact ⟨l2, p2.trans p, q2⟩
theorem F2.of_mapM {A B : Type} {f : A → Option B} : ∀ {xs : List A} {ys : List B}, xs.mapM f = some ys → F2 (fun a b => f a = some b) xs ys
  | [], ys, h => by
    simp at h; subst h; exact .nil
  | a :: xs, ys, h => by
    rw [List.mapM_cons] at h
    simp only [bind, Option.bind_eq_some_iff, pure, Option.some.injEq] at h
    obtain ⟨b, h1, bs', h2, rfl⟩ := h
    exact .cons h1 (F2.of_mapM h2)
theorem F2.map {A B E : Type} {R : A → B → Prop} {Q : A → E → Prop} {g : B → E} (h : ∀ a b, R a b → Q a (g b)) : ∀ {xs : List A} {ys : List B}, F2 R xs ys → F2 Q xs (ys.map g)
  | _, _, .nil => .nil
  | _, _, .cons h1 h2 => .cons (h _ _ h1) (F2.map h h2)
theorem int_cells {e : TypeId} {ke : IntKind} {v : Value} {c : Int} (he : Tryd.prog.underlying e = some (.int ke)) (hf : v.formed Tryd.prog e = true) (h : v.cells.toList = [.int ke c]) : v = .int ke c := by
  cases v with
  | agg cs => simp [Value.formed, he] at hf
  | _ => simpa [Value.cells] using h
def rowR (H : Type) (kk ke : IntKind) (x : MapEntry) (y : Lit × DataW H) : Prop := ∃ a c : Int, x.key = .int kk a ∧ y.1 = .int kk a ∧ x.val = .int ke c ∧ y.2 = .lit (.int ke c)
theorem row_entries {H : Type} {enc : TypeId × Value → H} {w : World} {base : Nat} {sp : Nat → Bool} {held : Bool} {fuel : Nat} {k e : TypeId} {t : TypeId} {kk ke : IntKind} {cs : List Value} {dd : List (Lit × DataW H)} {p : List MemPlace}
    (ht : Tryd.prog.underlying t = some (.map k e)) (hk : Tryd.prog.underlying k = some (.int kk)) (he : Tryd.prog.underlying e = some (.int ke))
    (h : DataW.trod enc Tryd.prog w base sp held fuel t cs = some (.map dd, p)) :
    ∃ (b : Nat) (es : Array MapEntry) (clock : Nat), cs = [.map (some b)] ∧ w.heap[b]? = some (.map es clock) ∧ ∃ l : List MapEntry, l.Perm es.toList ∧ F2 (rowR H kk ke) l dd := by
  cases fuel with
  | zero => simp [DataW.trod] at h
  | succ n =>
    unfold DataW.trod at h
    simp only [ht] at h
    split at h
    all_goals first | (cases h; done) | (rename_i e1; cases e1; done) | skip
    all_goals try (simp at h; done)
    all_goals try (rename_i e1 _; cases e1; done)
    rename_i b hX
    injection hX with hX
    injection hX with a1 a2
    subst a1; subst a2
    split at h
    · rename_i es clock hb
      split at h
      · simp only [Option.bind_eq_some_iff] at h
        obtain ⟨entries, h1, h2⟩ := h
        split at h2
        · simp only [Option.some.injEq, Prod.mk.injEq, DataW.map.injEq] at h2
          obtain ⟨rfl, _⟩ := h2
          have f1 := F2.of_mapM h1
          have f2 : F2 (rowR H kk ke) es.toList (entries.map (·.1)) := f1.map fun x y hx => by
            simp only [Option.bind_eq_some_iff] at hx
            obtain ⟨key, g1, g2⟩ := hx
            split at g2
            · rename_i hf
              simp only [Option.map_eq_some_iff] at g2
              obtain ⟨z, g3, rfl⟩ := g2
              obtain ⟨a, e1, e2, _⟩ := Maps.keyOf_int_inv hk g1
              obtain ⟨c, e3, e4, _⟩ := DataW.trod_int he g3
              subst e4
              exact ⟨a, c, e1, e2, int_cells he hf e3, rfl⟩
            cases g2
          obtain ⟨l, hl, hf⟩ := F2.pull (sorted_perm _).symm f2
          exact ⟨b, es, clock, rfl, hb, l, hl, hf⟩
        cases h2
      cases h
    cases h
theorem rows_vr {W : World} {L : Nat → Prop} : ∀ {l : List MapEntry} {es : List (Nat × Nat)}, F2 (rowR Unit .u8 .i64) l (es.map fun e => (Lit.int .u8 (e.1 : Int), DataW.lit (.int .i64 (e.2 : Int)))) → VRs W L [] [] (es.map fun e => D.int .u8 (e.1 : Int)) (l.map (·.key)) ∧ VRs W L [] [] (es.map fun e => D.int .i64 (e.2 : Int)) (l.map (·.val))
  | [], [], _ => ⟨by simp only [List.map_nil, VRs], by simp only [List.map_nil, VRs]⟩
  | [], _ :: _, h => by cases h
  | _ :: _, [], h => by cases h
  | x :: l, e :: es, h => by
    cases h with
    | cons h1 h2 =>
      obtain ⟨a, c, g1, g2, g3, g4⟩ := h1
      injection g2 with _ g2
      injection g4 with g4
      injection g4 with _ g4
      subst g2; subst g4
      obtain ⟨r1, r2⟩ := rows_vr h2
      simp only [List.map_cons, VRs, VR]
      exact ⟨⟨_, _, rfl, g1, r1⟩, ⟨_, _, rfl, g3, r2⟩⟩
theorem table_GR {W : World} {n : String} {g : Nat} {cs : Array Value} {ds : List D} (hg : Tryd.prog.globalNamed n = some g) (hv : W.var? Tryd.prog n = some cs) (hne : ds ≠ []) (hd : valsD ds = some cs.toList) :
    g < W.heap.size ∧ GR W (fun _ => False) g ds := by
  have hcell : ∀ (j : Nat) (v : Value), cs.toList[j]? = some v → W.cell? ⟨g, 0 + j, none⟩ = some v := fun j v hj => by
    rw [Nat.zero_add, World.var?_cell hg hv j]
    simpa using hj
  have hlen : ∀ {ds : List D} {vs : List Value}, valsD ds = some vs → vs.length = ds.length := by
    intro ds
    induction ds with
    | nil => intro vs h; simp only [valsD] at h; injection h with h; subst h; rfl
    | cons d ds ih =>
      intro vs h
      simp only [valsD] at h
      split at h
      · rename_i h1 h2
        injection h with h; subst h
        rw [List.length_cons, List.length_cons, ih h2]
      cases h
  have hb : ∃ e fz, W.heap[g]? = some (.cells cs e fz) := by
    unfold World.var? at hv
    rw [hg, Option.bind_some] at hv
    split at hv
    · rename_i h; injection hv with hv; subst hv; exact ⟨_, _, h⟩
    cases hv
  obtain ⟨e, fz, hb⟩ := hb
  refine ⟨?_, VRL_vals hd hcell, cs, e, fz, hb, ?_⟩
  · apply Classical.byContradiction
    intro hn
    have : W.heap[g]? = none := by rw [Array.getElem?_eq_none_iff]; omega
    rw [this] at hb; cases hb
  have := hlen hd; simpa using this
def Laid3 (W : World) : Prop := ∀ (g : Nat) (cs : List D), (g, cs) ∈ Cg.gl → g < W.heap.size ∧ GR W (fun _ => False) g cs
theorem tables_laid {W : World} (h : laidMetH Tryd.prog Rows.scanSetsRow.laid W) : Laid3 W := by
  rw [MakeChecks.laidMetH_plain _ _ _ (by kernel_rfl)] at h
  obtain ⟨ps, ⟨g0, t0, cs0, f0, p0, q0, hg0, ht0, hv0, hd0, ⟨g1, t1, cs1, f1, p1, q1, hg1, ht1, hv1, hd1, ⟨g2, t2, cs2, f2, p2, q2, hg2, ht2, hv2, hd2, ⟨g3, t3, cs3, f3, p3, q3, hg3, ht3, hv3, hd3, ⟨g4, t4, cs4, f4, p4, q4, hg4, ht4, hv4, hd4, _, _⟩, _⟩, _⟩, _⟩, _⟩, _, _⟩ := h
  have e2 : Tryd.prog.globalNamed "internal/strconv.uint64pow10" = some 3 := by kernel_rfl
  have e3 : Tryd.prog.globalNamed "soroban/scanspec.rows" = some 0 := by kernel_rfl
  have e4 : Tryd.prog.globalNamed "soroban/scanspec.lengths" = some 1 := by kernel_rfl
  have y2 : (Tryd.prog.globals[3]?).map (·.type) = some 123 := by kernel_rfl
  have y3 : (Tryd.prog.globals[0]?).map (·.type) = some 95 := by kernel_rfl
  have y4 : (Tryd.prog.globals[1]?).map (·.type) = some 99 := by kernel_rfl
  obtain rfl := Option.some.inj (e2.symm.trans hg2)
  obtain rfl := Option.some.inj (e3.symm.trans hg3)
  obtain rfl := Option.some.inj (e4.symm.trans hg4)
  obtain rfl := Option.some.inj (y2.symm.trans ht2)
  obtain rfl := Option.some.inj (y3.symm.trans ht3)
  obtain rfl := Option.some.inj (y4.symm.trans ht4)
  have k2 := flat_ok 4 f2 123 cs2.toList _ (by kernel_rfl) hd2
  have k4 := flat_ok 4 f4 99 cs4.toList _ (by kernel_rfl) hd4
  have v2 : valsD powCells = flatV (Rows.laid_internal_strconv_uint64pow10 (H := Unit)) := by rfl
  have v4 : valsD lensA = flatV (Rows.laid_soroban_scanspec_lengths (H := Unit)) := by rfl
  have n2 : powCells ≠ [] := by intro h; cases h
  have n4 : lensA ≠ [] := by intro h; cases h
  have r2 := table_GR e2 hv2 n2 (v2.trans k2)
  have r4 := table_GR e4 hv4 n4 (v4.trans k4)
  obtain ⟨b, es, clock, c1, c2, l, c3, c4⟩ := row_entries (kk := .u8) (ke := .i64) Tryd.underlying95 Tryd.underlying5 Tryd.underlying3 hd3
  obtain ⟨m1, m2⟩ := rows_vr (W := W) (L := fun _ => False) (es := rowEs) c4
  have hb : ∃ e fz, W.heap[0]? = some (.cells cs3 e fz) := by
    unfold World.var? at hv3
    rw [e3, Option.bind_some] at hv3
    split at hv3
    · rename_i h; injection hv3 with hv3; subst hv3; exact ⟨_, _, h⟩
    cases hv3
  obtain ⟨e, fz, hb⟩ := hb
  have lt : ∀ {i : Nat} {o : Obj}, W.heap[i]? = some o → i < W.heap.size := fun {i o} hi => by
    apply Classical.byContradiction
    intro hn
    have : W.heap[i]? = none := by rw [Array.getElem?_eq_none_iff]; omega
    rw [this] at hi; cases hi
  have hc0 : W.cell? ⟨0, 0, none⟩ = some (.map (some b)) := by
    rw [World.var?_cell e3 hv3 0, ← Array.getElem?_toList, c1]; rfl
  intro g cs hg
  have hg : (g, cs) ∈ [(0, [D.mapv rowKs rowVs]), (1, lensA), (3, powCells)] := hg
  simp only [List.mem_cons, List.not_mem_nil, or_false, Prod.mk.injEq] at hg
  rcases hg with ⟨rfl, rfl⟩ | ⟨rfl, rfl⟩ | ⟨rfl, rfl⟩
  · refine ⟨lt hb, ?_, cs3, e, fz, hb, by have := congrArg List.length c1; simpa using this⟩
    simp only [VRL]
    refine ⟨⟨.map (some b), hc0, rfl, ?_⟩, trivial⟩
    simp only [VR]
    exact ⟨b, es, clock, rfl, lt c2, fun h => h, c2, l, c3, m1, m2⟩
  · exact r4
  exact r2
theorem SRg {W : World} (h : Laid3 W) : SR Cg (fun _ => False) W [] [] :=
  ⟨rfl, fun i o b h => by simp at h, fun i j oi oj b h => by simp at h, fun i o b h => by simp at h, fun b h => h.elim, fun g cs hg => by
    rw [forb0]
    exact ⟨(h g cs hg).1, fun h => h, (h g cs hg).2⟩⟩
theorem law_callsG {f : FuncId} {ds : List D} {W : World} {vs : List Value} (hl : Laid3 W) (hc : PC Cg f ds (fun o => o = .ret (.bool true))) (hv : VRs W (fun _ => False) [] [] ds vs) : Calls Tryd.prog f vs.toArray W fun e W' => e = .returned (.bool true) ∧ Below W.heap.size W W' := by
  have h := (hc []).2 (fun _ => False) W [] vs (SRg hl) (by rw [forb0]; exact hv)
  refine h.mono ?_
  rintro e W' ⟨o, H', μ', ⟨rfl, rfl⟩, _, ⟨v, he, hv'⟩, hevo⟩
  simp only [VR] at hv'
  subst hv'
  exact ⟨he, hevo.os, hevo.tape, hevo.output, hevo.size, fun k hk => hevo.chg k hk fun ⟨i, o, h, _⟩ => by simp at h⟩
end Go.V
/- THE ROWS OF SCAN SPECIFICATIONS: what a set and what a list of pieces read as. -/
set_option maxRecDepth 100000
namespace Go.V
open Go.RowKit Go.Proofs Go.ChangeShapes Go.WideShapes Go.ChangeAt Go.ChangeMaps Go.Proofs.YthankfodgdfgaaaDoor
section
variable {H : Type} {enc : TypeId × Value → H} {W : World}
theorem rng_u64 {n : Int} (h : (Lit.int .u64 n).wf = true) : 0 ≤ n ∧ n < 18446744073709551616 := by
  simp [Lit.wf, IntKind.min, IntKind.max, IntKind.signed, IntKind.bits] at h; omega
theorem rng_u8 {n : Int} (h : (Lit.int .u8 n).wf = true) : 0 ≤ n ∧ n < 256 := by
  simp [Lit.wf, IntKind.min, IntKind.max, IntKind.signed, IntKind.bits] at h; omega
theorem set_cells {base : Nat} {sp : Nat → Bool} {held : Bool} {fuel : Nat} {c0 c1 c2 c3 : Value} {x : DataW H × List MemPlace} (h : DataW.trod enc Tryd.prog W base sp held fuel 28 [c0, c1, c2, c3] = some x) :
    ∃ S : Nat → Bool, c0 = .int .u64 ((sw S 0 : Nat) : Int) ∧ c1 = .int .u64 ((sw S 1 : Nat) : Int) ∧ c2 = .int .u64 ((sw S 2 : Nat) : Int) ∧ c3 = .int .u64 ((sw S 3 : Nat) : Int) := by
  obtain ⟨y0, y1, y2, y3, n, _, h0, h1, h2, h3⟩ := trod_array4 Tryd.underlying28 (by kernel_rfl) h
  obtain ⟨n0, e0, _, w0⟩ := DataW.trod_int Tryd.underlying27 h0
  obtain ⟨n1, e1, _, w1⟩ := DataW.trod_int Tryd.underlying27 h1
  obtain ⟨n2, e2, _, w2⟩ := DataW.trod_int Tryd.underlying27 h2
  obtain ⟨n3, e3, _, w3⟩ := DataW.trod_int Tryd.underlying27 h3
  injection e0 with e0; injection e1 with e1; injection e2 with e2; injection e3 with e3
  subst e0; subst e1; subst e2; subst e3
  have g0 := rng_u64 w0; have g1 := rng_u64 w1; have g2 := rng_u64 w2; have g3 := rng_u64 w3
  have hw := ofW_sw (w0 := n0.toNat) (w1 := n1.toNat) (w2 := n2.toNat) (w3 := n3.toNat) (by omega) (by omega) (by omega) (by omega)
  rw [show ((n0.toNat : Nat) : Int) = n0 by omega, show ((n1.toNat : Nat) : Int) = n1 by omega, show ((n2.toNat : Nat) : Int) = n2 by omega, show ((n3.toNat : Nat) : Int) = n3 by omega] at hw
  injection hw with a0 hw; injection hw with a1 hw; injection hw with a2 hw; injection hw with a3 hw
  injection a0 with _ a0; injection a1 with _ a1; injection a2 with _ a2; injection a3 with _ a3
  exact ⟨_, by rw [a0], by rw [a1], by rw [a2], by rw [a3]⟩
theorem no_agg {base : Nat} {v : Value} (h : Value.okWide Tryd.prog W .any base 23 v) : ∀ cs, v ≠ .agg cs := by
  simp only [Value.okWide, Tryd.underlying23, Cell.okWide] at h
  intro cs e
  subst e
  simp [Cell.ok] at h
def pcVs (p : Pc) : List Value := [.string p.lit, .int .i64 p.arg, .int .i64 p.wid, .int .i64 p.len, .int .u8 (p.conv : Int), .int .u64 ((sw p.set 0 : Nat) : Int), .int .u64 ((sw p.set 1 : Nat) : Int), .int .u64 ((sw p.set 2 : Nat) : Int), .int .u64 ((sw p.set 3 : Nat) : Int)]
def PcK (p : Pc) : Prop := p.lit.size ≤ maxLen ∧ p.conv < 256 ∧ (Lit.int .i64 p.arg).wf = true ∧ (Lit.int .i64 p.wid).wf = true ∧ (Lit.int .i64 p.len).wf = true
theorem Zgm {base : Nat} {sp : Nat → Bool} {held : Bool} {fuel : Nat} {cs : List Value} {x : DataW H × List MemPlace} (h : DataW.trod enc Tryd.prog W base sp held fuel 46 cs = some x) :
    ∃ p : Pc, cs = pcVs p ∧ PcK p ∧ ∃ r, x.1 = .agg (.lit (.string p.lit.data.toList) :: r) := by
  obtain ⟨xs, n, _, hx, hl, hlen, hall⟩ := DataW.trod_struct Tryd.underlying46 h
  have c46 : Tryd.prog.cellsOf 46 = 9 := by kernel_rfl
  have c9 : Tryd.prog.cellsOf 9 = 1 := by kernel_rfl
  have c3 : Tryd.prog.cellsOf 3 = 1 := by kernel_rfl
  have c5 : Tryd.prog.cellsOf 5 = 1 := by kernel_rfl
  have c28 : Tryd.prog.cellsOf 28 = 4 := by kernel_rfl
  rw [c46] at hl
  match cs, hl, xs, hlen with
  | [v0, v1, v2, v3, v4, v5, v6, v7, v8], _, [x0, x1, x2, x3, x4, x5], _ =>
    have h0 : DataW.trod enc Tryd.prog W base sp held n 9 ((([v0, v1, v2, v3, v4, v5, v6, v7, v8] : List Value).drop 0).take (Tryd.prog.cellsOf 9)) = some x0 := hall 0 _ rfl
    have h1 : DataW.trod enc Tryd.prog W base sp held n 3 ((([v0, v1, v2, v3, v4, v5, v6, v7, v8] : List Value).drop 1).take (Tryd.prog.cellsOf 3)) = some x1 := hall 1 _ rfl
    have h2 : DataW.trod enc Tryd.prog W base sp held n 3 ((([v0, v1, v2, v3, v4, v5, v6, v7, v8] : List Value).drop 2).take (Tryd.prog.cellsOf 3)) = some x2 := hall 2 _ rfl
    have h3 : DataW.trod enc Tryd.prog W base sp held n 3 ((([v0, v1, v2, v3, v4, v5, v6, v7, v8] : List Value).drop 3).take (Tryd.prog.cellsOf 3)) = some x3 := hall 3 _ rfl
    have h4 : DataW.trod enc Tryd.prog W base sp held n 5 ((([v0, v1, v2, v3, v4, v5, v6, v7, v8] : List Value).drop 4).take (Tryd.prog.cellsOf 5)) = some x4 := hall 4 _ rfl
    have h5 : DataW.trod enc Tryd.prog W base sp held n 28 ((([v0, v1, v2, v3, v4, v5, v6, v7, v8] : List Value).drop 5).take (Tryd.prog.cellsOf 28)) = some x5 := hall 5 _ rfl
    rw [c9] at h0
    rw [c3] at h1 h2 h3
    rw [c5] at h4
    rw [c28] at h5
    obtain ⟨s, e0, d0, z0⟩ := DataW.trod_string Tryd.underlying9 h0
    obtain ⟨n1, e1, _, w1⟩ := DataW.trod_int Tryd.underlying3 h1
    obtain ⟨n2, e2, _, w2⟩ := DataW.trod_int Tryd.underlying3 h2
    obtain ⟨n3, e3, _, w3⟩ := DataW.trod_int Tryd.underlying3 h3
    obtain ⟨n4, e4, _, w4⟩ := DataW.trod_int Tryd.underlying5 h4
    obtain ⟨S, a0, a1, a2, a3⟩ := set_cells (c0 := v5) (c1 := v6) (c2 := v7) (c3 := v8) h5
    simp at e0 e1 e2 e3 e4
    subst e0; subst e1; subst e2; subst e3; subst e4; subst a0; subst a1; subst a2; subst a3
    have g4 := rng_u8 w4
    refine ⟨⟨s, n1, n2, n3, n4.toNat, S⟩, ?_, ⟨z0, by show n4.toNat < 256; omega, w1, w2, w3⟩, ?_⟩
    · unfold pcVs
      rw [show ((n4.toNat : Nat) : Int) = n4 by omega]
    rw [hx]
    have : x0.1 = .lit (.string s.data.toList) := by rw [d0]
    exact ⟨[x1.1, x2.1, x3.1, x4.1, x5.1], by rw [← this]; rfl⟩
theorem pcs_getp : ∀ (l : List Pc) (j : Nat) (d : D), (pcs l)[j]? = some d → ∃ i r p, j = i * 9 + r ∧ r < 9 ∧ l[i]? = some p ∧ p.cells[r]? = some d
  | [], j, d, h => by simp [pcs] at h
  | p :: l, j, d, h => by
    have h : (p.cells ++ pcs l)[j]? = some d := h
    by_cases hj : j < 9
    · rw [List.getElem?_append_left (by exact hj)] at h
      exact ⟨0, j, p, by omega, hj, rfl, h⟩
    rw [List.getElem?_append_right (by show 9 ≤ j; omega)] at h
    obtain ⟨i, r, q, h1, h2, h3, h4⟩ := pcs_getp l (j - 9) d h
    exact ⟨i + 1, r, q, by omega, h2, h3, h4⟩
theorem pc_vr (p : Pc) (r : Nat) (d : D) (h : p.cells[r]? = some d) : ∃ v, (pcVs p)[r]? = some v ∧ v.oneCell' = true ∧ VR W (fun _ => False) [] [] d v := by
  match r, h with
  | 0, h | 1, h | 2, h | 3, h | 4, h | 5, h | 6, h | 7, h | 8, h =>
    injection h with h; subst h
    exact ⟨_, rfl, rfl, by simp only [VR]⟩
  | r + 9, h => cases h
theorem vr_list {v : Value} {d : DataW H} {p : List MemPlace} (h : DataW.Trod enc Tryd.prog W 0 (fun _ => true) true 23 v d p) (hv : ∀ cs, v ≠ .agg cs) :
    ∃ l : List Pc, (∀ q ∈ l, PcK q) ∧ l.length ≤ maxLen ∧ VR W (fun _ => False) [] [] (slP l) v ∧ (d = .nil ∧ l = [] ∨ ∃ ds rest, d = .slice ds rest ∧ F2 (fun (q : Pc) (x : DataW H) => ∃ r, x = .agg (.lit (.string q.lit.data.toList) :: r)) l ds) := by
  obtain ⟨fuel, hf⟩ := h
  have hc : v.cells.toList = [v] := by cases v <;> first | rfl | exact absurd rfl (hv _)
  rw [hc] at hf
  rcases Go.Deep.open_slice Tryd.underlying23 hf with ⟨e, hx⟩ | ⟨a, len, cap, m, n, Df, Pl, e, hb, hl, hm, hmm, hx, hall⟩
  · injection e with e; subst e
    refine ⟨[], (fun _ h => by cases h), Nat.zero_le _, ?_, .inl ⟨by injection hx, rfl⟩⟩
    simp only [VR]
    exact ⟨none, 0, rfl, Nat.le_refl _, Nat.zero_le _, fun h => (h rfl).elim⟩
  injection e with e; subst e
  simp only [if_true] at hmm
  subst hmm
  have hch : ∀ i, i < len → ∃ q : Pc, PcK q ∧ W.cells? 0 (a.add (i * Tryd.prog.cellsOf 46)) (Tryd.prog.cellsOf 46) = some (pcVs q) ∧ ∃ r, Df i = .agg (.lit (.string q.lit.data.toList) :: r) := fun i hi => by
    obtain ⟨cs', g1, g2⟩ := hall i (by omega)
    obtain ⟨q, rfl, k, r, hr⟩ := Zgm g2
    exact ⟨q, k, g1, r, hr⟩
  have : ∃ f : Nat → Pc, ∀ i, i < len → PcK (f i) ∧ W.cells? 0 (a.add (i * Tryd.prog.cellsOf 46)) (Tryd.prog.cellsOf 46) = some (pcVs (f i)) ∧ ∃ r, Df i = .agg (.lit (.string (f i).lit.data.toList) :: r) := by
    refine ⟨fun i => if hi : i < len then (hch i hi).choose else pcZ, fun i hi => ?_⟩
    simp only [dif_pos hi]
    exact (hch i hi).choose_spec
  obtain ⟨f, hf'⟩ := this
  have c46 : Tryd.prog.cellsOf 46 = 9 := by kernel_rfl
  rw [c46] at hf'
  refine ⟨(List.range len).map f, ?_, by rw [List.length_map, List.length_range]; omega, ?_, .inr ⟨_, _, congrArg Prod.fst hx, ?_⟩⟩
  · intro q hq
    obtain ⟨i, hi, rfl⟩ := List.mem_map.1 hq
    exact (hf' i (List.mem_range.1 hi)).1
  · have hget : ∀ (j : Nat) (d : D), (pcs ((List.range len).map f))[j]? = some d → ∃ v, W.cell? (a.add (0 + j)) = some v ∧ v.oneCell' = true ∧ VR W (fun _ => False) [] [] d v := fun j d hd => by
      obtain ⟨i, r, p, rfl, hr, h3, h4⟩ := pcs_getp _ j d hd
      rw [List.getElem?_map, Option.map_eq_some_iff] at h3
      obtain ⟨i', h5, rfl⟩ := h3
      have hi : i < len := by
        have := (List.getElem?_eq_some_iff.1 h5).1
        rwa [List.length_range] at this
      rw [List.getElem?_range hi] at h5
      injection h5 with h5; subst h5
      obtain ⟨v, k1, k2, k3⟩ := pc_vr (W := W) (f i) r d h4
      have hcell := (World.cells?_some (hf' i hi).2.1).2.2 r hr
      refine ⟨v, ?_, k2, k3⟩
      rw [← k1, ← hcell, Nat.zero_add, Addr.add_add]
    simp only [VR]
    refine ⟨some a, m, by rw [List.length_map, List.length_range], by rw [List.length_map, List.length_range]; exact hl, hm, fun hne => ⟨a, rfl, ?_, fun h => h, VRL_mk hget⟩⟩
    cases hp : pcs ((List.range len).map f) with
    | nil => exact absurd hp hne
    | cons c cs =>
      obtain ⟨v, k, _⟩ := hget 0 c (by rw [hp]; rfl)
      exact cell_lt k
  have : ∀ (k : Nat) (xs : List Nat), (∀ i ∈ xs, i < len) → F2 (fun (q : Pc) (x : DataW H) => ∃ r, x = .agg (.lit (.string q.lit.data.toList) :: r)) (xs.map f) (xs.map Df) := by
    intro _ xs
    induction xs with
    | nil => intro _; exact .nil
    | cons i xs ih => intro h; exact .cons (hf' i (h i (by simp))).2.2 (ih fun j hj => h j (List.mem_cons_of_mem _ hj))
  exact this 0 _ fun i hi => List.mem_range.1 hi
end
end Go.V
/- A START THAT MEETS WHAT THE ROWS SAY OF THE TABLES: the map of rows laid by hand, the other tables by the kit's law. -/
set_option maxRecDepth 100000
namespace Go.V
open Go.RowKit Go.Proofs Go.ChangeShapes Go.WideShapes Go.ChangeAt Go.ChangeMaps Go.Proofs.YthankfodgdfgaaaDoor
def rowMap : Obj := .map (rowEs.zipIdx.map fun x => (⟨.int .u8 (x.1.1 : Int), .int .i64 (x.1.2 : Int), x.2⟩ : MapEntry)).toArray 20
def setRow (b : Nat) : Obj → Obj
  | .cells _ t frozen => .cells #[.map (some b)] t frozen
  | o => o
noncomputable def mapN (os : Os) : Nat := (World.settled Tryd.prog os).heap.size
noncomputable def mapW0 (os : Os) : World :=
  let w := World.holding Tryd.prog os ⟨#[rowMap], #[], []⟩
  { w with heap := w.heap.modify 0 (setRow (mapN os)) }
def great4 : List String := ["math/bits.deBruijn32tab", "math/bits.deBruijn64tab", "internal/strconv.uint64pow10", "soroban/scanspec.lengths"]
def laid5 : List (String × DataW Unit) := Rows.scanSetsRow.laid
noncomputable def mapW (os : Os) : World := (mapW0 os).layVars Tryd.prog (laid5.filter fun x => great4.contains x.1)
theorem mapW_os (os : Os) : (mapW os).os = os := by unfold mapW; rw [World.layVars_os]; rfl
theorem mapW_shaped (os : Os) : (mapW os).Shaped Tryd.prog := World.shaped_of_ZipB (by kernel_rfl) (by kernel_rfl)
theorem mapW_in (os : Os) : LaidIn Tryd.prog (mapW os) (laid5.filter fun x => !great4.contains x.1) [0, mapN os] :=
  LaidIn.of_run [0, mapN os] 8 (by kernel_rfl) (by kernel_rfl) (by kernel_rfl) (by kernel_rfl)
theorem mapW_laid (os : Os) : laidMet Tryd.prog laid5 (mapW os) :=
  laidMet_layVars (w0 := mapW0 os) great4 [0, mapN os] rfl (by kernel_rfl) (by kernel_rfl) (mapW_in os)
theorem mapW_met (os : Os) (args : Array Value) : laidMetH Tryd.prog Rows.scanSetsRow.laid ((mapW os).forCall (fun _ _ => 0) ⟨#[], args, []⟩).memory := by
  rw [MakeChecks.laidMetH_plain _ _ _ (by kernel_rfl)]
  exact (mapW_laid os).of_heap (by simp [World.memory, World.forCall, Input.heap])
end Go.V
