/- A part of the proof: abstract values, rules for the steps of the program's form, and contracts of its functions, each proved; no condition. -/
import Derived.Test.YthankfodgdfgaaaDoorA12
import Derived.Laws.IdiomArrays
import Derived.Deep.Slices
import Derived.Maps.RangeWalk
import Derived.Test.YthankfodgdfgaaaDoorTie
import Derived.Test.YthankfodgdfgaaaDoorCards
import Derived.ProofKit
import Derived.OpenShut
import Derived.LaidMore
import Derived.Lay
import Derived.SevenTiedAt
import Derived.Carry
import Derived.Stop.Joined
import Derived.Lib.LaidIn
set_option linter.unusedVariables false
set_option linter.unusedSimpArgs false
set_option linter.unnecessarySimpa false
set_option maxHeartbeats 8000000
set_option maxRecDepth 100000
set_option synthInstance.maxSize 100000
set_option synthInstance.maxHeartbeats 2000000
namespace Go.V
open Go.RowKit Go.Proofs
theorem q_pcB {env : List D} {H : Heap} {dst : Option Tmp} {x y : Operand} {ty T' : TypeId} {pos : String} {aft : Array Edge} {gd : Option (Nat × Bool)} {p : Pc} {s : ByteArray} {a w n : Int} {c : Nat} (hx : evO Cg env x = some (pcA p)) (hy : evO Cg env y = some (.agg [.str s, .int .i64 a, .int .i64 w, .int .i64 n, .int .u8 (c : Int), .int .u64 0, .int .u64 0, .int .u64 0, .int .u64 0])) (hp : PcF p) (hq : PcF (bareP s a w n c)) :
    OpQ Cg ⟨dst, .binOp .eql Zae x y T', ty, pos, aft, gd⟩ env H (.bool (pEq p (bareP s a w n c))) := Zgy hx (by rw [hy, bare_cells]) hp hq
theorem pEq_rfl (p : Pc) : pEq p p = true := by unfold pEq; exact decide_eq_true ⟨rfl, rfl, rfl, rfl, rfl, rfl, rfl, rfl, rfl⟩
theorem wfS {a w n : Int} {c : Nat} {S : Nat → Bool} (ha : (Lit.int .i64 a).wf = true) (hw : (Lit.int .i64 w).wf = true) (hn : (Lit.int .i64 n).wf = true) (hc : c < 256) : PcF ⟨ByteArray.empty, a, w, n, c, S⟩ := ⟨⟨by show (0 : Nat) ≤ _; decide, hc⟩, ha, hw, hn⟩
theorem ZgE : PC Cg Zfp [] (fun o => o = .ret (.bool true)) := by
  obtain ⟨S, hS⟩ : ∃ S, S = setx := ⟨_, rfl⟩
  obtain ⟨S4, hS4⟩ : ∃ S4, S4 = setx4 := ⟨_, rfl⟩
  obtain ⟨l1, hl1⟩ : ∃ l1, l1 = lx1 := ⟨_, rfl⟩
  obtain ⟨l2, hl2⟩ : ∃ l2, l2 = lx2 := ⟨_, rfl⟩
  have h100 : S 100 = true := by rw [hS]; rfl
  have h98 : S 98 = false := by rw [hS]; rfl
  have f1 : ∀ p ∈ l1, PcF p := by
    rw [hl1]
    intro p hp
    simp only [lx1, List.mem_cons, List.not_mem_nil, or_false] at hp
    rcases hp with rfl | rfl | rfl | rfl | rfl
    · exact wfS (by decide) (by decide) (by decide) (by decide)
    · exact wfS (by decide) (by decide) (by decide) (by decide)
    · exact ⟨⟨by decide, by decide⟩, by decide, by decide, by decide⟩
    · exact wfS (by decide) (by decide) (by decide) (by decide)
    exact wfS (by decide) (by decide) (by decide) (by decide)
  have f2 : ∀ p ∈ l2, PcF p := by
    rw [hl2]
    intro p hp
    simp only [lx2, List.mem_cons, List.not_mem_nil, or_false] at hp
    rcases hp with rfl | rfl
    · exact wfS (by decide) (by decide) (by decide) (by decide)
    exact wfS (by decide) (by decide) (by decide) (by decide)
  have g2 : ∀ p ∈ l2, p.lit.size ≤ 1048576 := by
    rw [hl2]
    intro p hp
    simp only [lx2, List.mem_cons, List.not_mem_nil, or_false] at hp
    rcases hp with rfl | rfl
    · decide
    decide
  have n1 : l1.length = 5 := by rw [hl1]; rfl
  have n2 : l2.length = 2 := by rw [hl2]; rfl
  have c1 : PC Cg ZaR [.str sx1] (fun o => o = .ret (.tup [slP l1, .int .i64 0, .int .i64 0])) := by have := ZdX sx1; rw [px1, ← hl1] at this; exact this
  have c2 : PC Cg ZaR [.str sx2] (fun o => o = .ret (.tup [slP l2, .int .i64 0, .int .i64 0])) := by have := ZdX sx2; rw [px2, ← hl2] at this; exact this
  have c3 : PC Cg ZaR [.str sx3] (fun o => o = .ret (.tup [slP [], .int .i64 6, .int .i64 4])) := by have := ZdX sx3; rw [px3] at this; exact this
  have c4 : PC Cg Zcn [slP l2] (fun o => o = .ret (.tup [.str sx2, .int .i64 0])) := by have := Zgg l2 f2 g2 (by omega); rw [show sPrint l2 = (sx2, 0) by rw [hl2]; exact prn_2] at this; exact this
  have c5 : PC Cg ZbD [.str sx4] (fun o => o = .ret (.tup [setD S4, .int .i64 0])) := by have := PC.g (Zd0 sx4); rw [rx4, ← hS4] at this; exact this
  have c6 : PC Cg ZbF [setD S4] (fun o => o = .ret (.tup [.str (bytesOf [97, 45, 99, 101, 45]), .int .i64 0])) := by have := PC.g (ZcL S4); rw [show setTx S4 = ([97, 45, 99, 101, 45], 0) by rw [hS4]; exact tx4] at this; exact this
  have c7 : PC Cg ZcE [slP l1] (fun o => o = .ret (.tup [.int .i64 2, .int .i64 0])) := by have := Zgz l1 f1 (by omega); rw [show sArgs l1 = (2, 0) by rw [hl1]; exact args_1] at this; exact this
  have c8 : PC Cg ZbE [slP l2] (fun o => o = .ret (.tup [.bool false, .int .i64 0])) := by have := Zfu l2 f2 (by omega); rw [show sOrd l2 = (false, 0) by rw [hl2]; exact ord_2] at this; exact this
  have d0 := pcs_drop l1 0 (by omega)
  have d1 := pcs_drop l1 1 (by omega)
  have d3 := pcs_drop l1 3 (by omega)
  have d4 := pcs_drop l1 4 (by omega)
  have e1 := pcs_drop l2 1 (by omega)
  have m1 : pcs l1 ≠ [] := pcs_ne (i := 0) (by omega)
  have m2 : pcs l2 ≠ [] := pcs_ne (i := 0) (by omega)
  rw [show l1.getD 0 pcZ = bareP ByteArray.empty 1 0 0 100 by rw [hl1]; rfl] at d0
  rw [show l1.getD 1 pcZ = bareP ByteArray.empty 0 0 0 32 by rw [hl1]; rfl] at d1
  rw [show l1.getD 3 pcZ = bareP ByteArray.empty 0 5 0 115 by rw [hl1]; rfl] at d3
  rw [show l1.getD 4 pcZ = bareP ByteArray.empty 2 0 3 102 by rw [hl1]; rfl] at d4
  rw [show l2.getD 1 pcZ = ⟨ByteArray.empty, 1, 0, 0, 91, S⟩ by rw [hl2, hS]; rfl] at e1
  have w0 : PcF (bareP ByteArray.empty 1 0 0 100) := wfS (by decide) (by decide) (by decide) (by decide)
  have w1 : PcF (bareP ByteArray.empty 0 0 0 32) := wfS (by decide) (by decide) (by decide) (by decide)
  have w3 : PcF (bareP ByteArray.empty 0 5 0 115) := wfS (by decide) (by decide) (by decide) (by decide)
  have w4 : PcF (bareP ByteArray.empty 2 0 3 102) := wfS (by decide) (by decide) (by decide) (by decide)
  clear hS hS4 hl1 hl2
  refine PC.rn Zdg Zfa Zfb (rs := [.tmp 0]) (by rw [Zfc]) ?_
  refine ARun.seq (ARun.region ?_); refine zza ?_; refine AOps.nil (ARun.seq (ARun.region ?_))
  refine zzc rfl rfl (c1) ?_
  refine zzm ?_; refine zze ?_; refine zze ?_; refine zze ?_; refine zza ?_; refine zza ?_; refine zza ?_; refine AOps.nil (ARun.seq (ARun.region ?_))
  refine zzc rfl rfl (c2) ?_
  refine zzm ?_; refine zze ?_; refine zze ?_; refine zze ?_; refine zza ?_; refine zza ?_; refine zza ?_; refine AOps.nil (ARun.seq (ARun.region ?_))
  refine zzc rfl rfl (c3) ?_
  refine zzm ?_; refine zze ?_; refine zze ?_; refine zze ?_; refine zza ?_; refine zza ?_; refine zza ?_; refine AOps.nil (ARun.seq (ARun.region ?_)); refine zzm ?_
  refine zzc rfl rfl (c4) ?_
  refine zzm ?_; refine zze ?_; refine zze ?_; refine zza ?_; refine zza ?_; refine AOps.nil (ARun.seq (ARun.region ?_))
  refine zzc rfl rfl (c5) ?_
  refine zzm ?_; refine zze ?_; refine zze ?_
  refine ZbC rfl rfl rfl rfl rfl rfl rfl rfl rfl rfl rfl ?_
  refine zza ?_; refine AOps.nil (ARun.seq (ARun.region ?_)); refine zzL ?_
  refine zzc rfl rfl (c6) ?_
  refine zzm ?_; refine zze ?_; refine zze ?_; refine zza ?_; refine zza ?_; refine AOps.nil (ARun.seq (ARun.region ?_)); refine zzm ?_
  refine zzc rfl rfl (c7) ?_
  refine zzm ?_; refine zze ?_; refine zze ?_; refine zza ?_; refine zza ?_; refine AOps.nil (ARun.seq (ARun.region ?_)); refine zzm ?_
  refine zzc rfl rfl (c8) ?_
  refine zzm ?_; refine zze ?_; refine zze ?_; refine zza ?_; refine zza ?_; refine AOps.nil (ARun.seq (ARun.seq (ARun.region ?_))); refine zzm ?_; refine zzi ?_; refine zzm ?_; refine zzm ?_; refine zzi ?_; refine zzp ?_; refine zzm ?_; refine zzm ?_; refine zzi ?_; refine zzp ?_; refine zzm ?_; refine zzm ?_; refine zzi ?_; refine zzp ?_; refine zzm ?_; refine zzm ?_; refine zzi ?_; refine zzp ?_; refine zzm ?_; refine zzm ?_; refine zzi ?_; refine zzp ?_; refine zzm ?_; refine zzm ?_; refine zzi ?_; refine zzp ?_; refine zzm ?_; refine zzm ?_; refine zzi ?_; refine zzp ?_; refine zzm ?_; refine zzm ?_; refine zzi ?_; refine zzp ?_; refine zzm ?_; refine zzm ?_; refine zzN ?_
  refine y_op rfl (OpQ.cast (d' := .bool false) (q_int rfl rfl rfl) (by rw [n1]; rfl)) ?_
  refine zzp ?_; refine zzm ?_; refine zzm ?_; refine zzN ?_
  refine y_op rfl (OpQ.cast (d' := .bool false) (q_int rfl rfl rfl) (by rw [n2]; rfl)) ?_
  refine zzp ?_; refine zzm ?_; refine zzm ?_; refine zzi ?_; refine zzp ?_; refine zzm ?_; refine zzm ?_; refine zzp ?_; refine AOps.nil ?_
  refine ARun.condF rfl ?_
  refine ARun.skip (ARun.seq (ARun.region ?_)); refine zzm ?_
  refine y_op rfl (Zav rfl rfl rfl rfl (by omega) (by omega) m1 d0) ?_
  refine zzL ?_
  refine y_op rfl (Za4 rfl rfl rfl rfl rfl) ?_
  refine y_op rfl (OpQ.cast (d' := .bool true) (q_pcB (p := bareP ByteArray.empty 1 0 0 100) (s := ByteArray.empty) (a := 1) (w := 0) (n := 0) (c := 100) rfl rfl w0 w0) (congrArg D.bool (pEq_rfl _))) ?_
  refine zzm ?_; refine zzm ?_
  refine y_op rfl (Zav rfl rfl rfl rfl (by omega) (by omega) m1 d1) ?_
  refine zzL ?_
  refine y_op rfl (Za4 rfl rfl rfl rfl rfl) ?_
  refine y_op rfl (OpQ.cast (d' := .bool true) (q_pcB (p := bareP ByteArray.empty 0 0 0 32) (s := ByteArray.empty) (a := 0) (w := 0) (n := 0) (c := 32) rfl rfl w1 w1) (congrArg D.bool (pEq_rfl _))) ?_
  refine zzp ?_; refine zzm ?_; refine zzm ?_
  refine y_op rfl (Zav rfl rfl rfl rfl (by omega) (by omega) m1 d3) ?_
  refine zzL ?_
  refine y_op rfl (Za4 rfl rfl rfl rfl rfl) ?_
  refine y_op rfl (OpQ.cast (d' := .bool true) (q_pcB (p := bareP ByteArray.empty 0 5 0 115) (s := ByteArray.empty) (a := 0) (w := 5) (n := 0) (c := 115) rfl rfl w3 w3) (congrArg D.bool (pEq_rfl _))) ?_
  refine zzp ?_; refine zzm ?_; refine zzm ?_
  refine y_op rfl (Zav rfl rfl rfl rfl (by omega) (by omega) m1 d4) ?_
  refine zzL ?_
  refine y_op rfl (Za4 rfl rfl rfl rfl rfl) ?_
  refine y_op rfl (OpQ.cast (d' := .bool true) (q_pcB (p := bareP ByteArray.empty 2 0 3 102) (s := ByteArray.empty) (a := 2) (w := 0) (n := 3) (c := 102) rfl rfl w4 w4) (congrArg D.bool (pEq_rfl _))) ?_
  refine zzp ?_; refine zza ?_; refine AOps.nil (ARun.seq (ARun.region ?_)); refine zzm ?_; refine zzm ?_; refine zzm ?_
  refine y_op rfl (OpQ.cast (d' := .bool true) (Zen rfl rfl) (congrArg D.bool (by rw [str_eq]; exact decide_eq_true rfl))) ?_
  refine zzp ?_; refine zzm ?_; refine zzm ?_
  refine y_op rfl (OpQ.cast (d' := .bool true) (Zen rfl rfl) (congrArg D.bool (by rw [str_eq]; exact decide_eq_true rfl))) ?_
  refine zzp ?_; refine zzm ?_; refine zzm ?_
  refine y_op rfl (Zav rfl rfl rfl rfl (by omega) (by omega) m2 e1) ?_
  refine zzf ?_; refine zzL ?_
  refine y_op rfl (OpQ.cast (d' := .bool true) (q_call rfl rfl (PC.g (Zbr S 100 (by decide)))) (congrArg D.bool h100)) ?_
  refine zzp ?_; refine zzm ?_; refine zzm ?_
  refine y_op rfl (Zav rfl rfl rfl rfl (by omega) (by omega) m2 e1) ?_
  refine zzf ?_; refine zzL ?_
  refine y_op rfl (OpQ.cast (d' := .bool false) (q_call rfl rfl (PC.g (Zbr S 98 (by decide)))) (congrArg D.bool h98)) ?_
  refine zzn ?_; refine zzp ?_; refine zza ?_; refine AOps.nil ?_
  refine ARun.ret ?_
  refine ⟨_, _, _, .tmp rfl .nil, .cons (.same _) .nil, rfl, ?_⟩
  rfl
end Go.V
set_option maxHeartbeats 8000000
set_option maxRecDepth 100000
set_option synthInstance.maxSize 100000
set_option synthInstance.maxHeartbeats 2000000
namespace Go.V
open Go.RowKit Go.Proofs
theorem Zfk (S : Nat → Bool) {c : Nat} (hc : c < 256) : PC Cg Zcm [setD S, .int .u8 (c : Int)] (fun o => o = .ret (.bool true)) := by
  have c1 := PC.g (ZcL S)
  have c2 := PC.g (Zfs S)
  have c3 := PC.g (Zbr S c hc)
  have c4 := PC.g (ZaJ S c hc)
  generalize setTx S = P at c1 c2
  obtain ⟨l, e⟩ := P
  refine PC.rn ZbS Zdy Zdz (rs := [.tmp 4]) (by rw [ZdA]) ?_
  refine ARun.seq (ARun.region ?_)
  refine y_new rfl (n_box rfl rfl rfl) ?_
  refine zza ?_; refine AOps.nil (ARun.seq (ARun.region ?_))
  refine zzc rfl rfl (ZgE) ?_
  refine zza ?_; refine AOps.nil (ARun.seq (ARun.region ?_))
  refine y_op rfl (Zab rfl rfl rfl rfl rfl rfl) ?_
  refine zzc rfl rfl (c1) ?_
  refine zzm ?_; refine zze ?_; refine zze ?_; refine zza ?_; refine zza ?_; refine AOps.nil (ARun.seq (ARun.region ?_))
  refine y_op rfl (Zab rfl rfl rfl rfl rfl rfl) ?_
  refine zzc rfl rfl (c2) ?_
  refine zzm ?_; refine zze ?_; refine zze ?_; refine zza ?_; refine zza ?_; refine AOps.nil (ARun.seq ?_)
  refine ARun.drawnP 20 (fun _ => False) mixC rfl rfl (by kernel_rfl) (fun _ _ h => h.elim) ?_
  refine .op rfl (q_move rfl) ?_
  refine .op rfl (q_move rfl) ?_
  refine .op rfl (q_move rfl) ?_
  refine .op rfl (q_move rfl) ?_
  refine .op rfl (OpQ.cast (d' := .bool true) (Zen rfl rfl) (congrArg D.bool (by rw [str_eq]; exact decide_eq_true rfl))) ?_
  refine .op rfl (q_pick rfl rfl rfl rfl) ?_
  refine .op rfl (q_move rfl) ?_
  refine .op rfl (q_move rfl) ?_
  refine .op rfl (q_move rfl) ?_
  refine .op rfl (OpQ.cast (d' := .bool true) (q_int rfl rfl rfl) (congrArg D.bool (decide_eq_true rfl))) ?_
  refine .op rfl (q_pick rfl rfl rfl rfl) ?_
  refine .op rfl (q_move rfl) ?_
  refine .op rfl (Zab rfl rfl rfl rfl rfl rfl) ?_
  refine .op rfl (q_move rfl) ?_
  refine .op rfl (q_call rfl rfl (c3)) ?_
  refine .op rfl (Zab rfl rfl rfl rfl rfl rfl) ?_
  refine .op rfl (q_move rfl) ?_
  refine .op rfl (q_call rfl rfl (c4)) ?_
  refine .op rfl (OpQ.cast (d' := .bool true) (ZgN rfl rfl rfl) (by cases S c <;> rfl)) ?_
  refine .op rfl (q_pick rfl rfl rfl rfl) ?_
  refine .nil (fun hG => ?_)
  refine zza ?_; refine AOps.nil ?_
  refine ARun.ret ?_
  refine ⟨_, _, _, .tmp rfl .nil, .cons (.same _) .nil, rfl, ?_⟩
  rfl
theorem Zfl (S : Nat → Bool) {n : Int} (h1 : 0 ≤ n) (h2 : n ≤ 255) : PC Cg Zcm [setD S, .int .u8 n] (fun o => o = .ret (.bool true)) := by
  obtain ⟨c, rfl⟩ := Int.eq_ofNat_of_zero_le h1
  exact Zfk S (by omega)
end Go.V
/- THE ROWS: what the arguments read as, and what is left behind a call. -/
set_option maxRecDepth 100000
namespace Go.V
open Go.RowKit Go.Proofs Go.ChangeShapes Go.WideShapes Go.ChangeAt Go.ChangeMaps Go.Proofs.YthankfodgdfgaaaDoor
theorem laidOutZ : laidOutB Tryd.prog = true := by kernel_rfl
theorem ownZ : ownKnob Tryd.prog.godebug = none := by kernel_rfl
theorem forb0 : forb (fun _ => False) [] [] = fun _ => False := by
  funext b
  apply propext
  constructor
  · rintro (h | ⟨i, o, h, _⟩)
    · exact h
    simp at h
  exact fun h => h.elim
section
variable {H : Type} {enc : TypeId × Value → H} {W : World}
theorem vr_u8 {base : Nat} {v : Value} {d : DataW H} {p : List MemPlace} (hv : Value.okWide Tryd.prog W .any base 5 v) (h : DataW.Trod enc Tryd.prog W 0 (fun _ => true) true 5 v d p) :
    ∃ n : Int, 0 ≤ n ∧ n ≤ 255 ∧ VR W (fun _ => False) [] [] (.int .u8 n) v := by
  obtain ⟨n, rfl, _, _, hw⟩ := open_int Tryd.underlying5 hv h
  simp [Lit.wf, IntKind.min, IntKind.max, IntKind.signed, IntKind.bits] at hw
  exact ⟨n, by omega, by omega, by simp only [VR]⟩
theorem trodAll_stays {W' : World} (hb : Below W.heap.size W W') {sp : Nat → Bool} : ∀ {ts : List TypeId} {vs : List Value} {ds : List (DataW H)} {p : List MemPlace}, (∀ t ∈ ts, Tryd.prog.readableRec t = true ∧ t < Tryd.prog.types.size) →
    DataW.TrodAll enc Tryd.prog W 0 (fun _ => true) true ts vs ds p → (∀ x ∈ p, x.block < W.heap.size ∧ sp x.block = true) → DataW.TrodAll enc Tryd.prog W' 0 sp true ts vs ds p
  | [], _, _, _, _, h, _ => by
    obtain ⟨rfl, rfl, rfl⟩ := trodAll_nil h
    simp [DataW.TrodAll]
  | t :: ts, _, _, _, ht, h, hp => by
    obtain ⟨v, vs, d, ds, a, b, rfl, rfl, rfl, h1, h2⟩ := trodAll_cons h
    obtain ⟨r1, r2⟩ := ht t (List.mem_cons_self ..)
    exact ⟨a, b, WideElems.Trod_stays laidOutZ r1 r2 h1 (fun x hx => hb.same (hp x (List.mem_append_left _ hx)).1) (fun x hx => (hp x (List.mem_append_left _ hx)).2),
      trodAll_stays hb (fun t ht' => ht t (List.mem_cons_of_mem _ ht')) h2 (fun x hx => hp x (List.mem_append_right _ hx)), rfl⟩
theorem law_post {fn : Func} {s : ChangeSpec} {W' : World} {args : Array Value} {ds : List (DataW H)} {before : List MemPlace} (hs : s.vars = []) (hW : DataW.Whole enc Tryd.prog fn.params.toList s.vars false W args.toList ds [] before) (hf : s.fn H ds = { results := [.lit (.bool true)], args := ds })
    (hr : fn.resultTypes = #[4]) (hts : ∀ t ∈ fn.params.toList, Tryd.prog.readableRec t = true ∧ t < Tryd.prog.types.size) (hb : Below W.heap.size W W') : s.post enc Tryd.prog fn false true false false W args (.bool true) W' := by
  have hW' := hW
  obtain ⟨p, q, hA, hV, rfl, _, _⟩ := hW
  rw [hs] at hV
  obtain ⟨_, rfl⟩ := trodVars_none hV
  have hlt : ∀ x ∈ p, x.block < W.heap.size := fun x hx => by simpa using hW'.lt x (List.mem_append_left _ hx)
  refine ⟨ds, [], p ++ [], [], p, [], hW', ?_, ?_, ?_, hb.frame _, fun h => by cases h⟩
  · rw [List.append_nil, hf, hr]
    exact trodAll_mk1 (shut_bool Tryd.underlying4 _)
  · rw [List.append_nil, hf]
    exact trodAll_stays hb hts hA fun x hx => ⟨hlt x hx, by simpa using hlt x hx⟩
  rw [List.append_nil, hf, hs]
  rfl
end
/-! THE TABLES, AS THEY LIE. -/
inductive F2 {A B : Type} (R : A → B → Prop) : List A → List B → Prop where
  | nil : F2 R [] []
  | cons {a : A} {b : B} {xs : List A} {ys : List B} : R a b → F2 R xs ys → F2 R (a :: xs) (b :: ys)
theorem F2.pull {A B : Type} {R : A → B → Prop} {ys zs : List B} (h : ys.Perm zs) : ∀ {xs : List A}, F2 R xs ys → ∃ l : List A, l.Perm xs ∧ F2 R l zs := by
  induction h with
  | nil => intro xs h; exact ⟨xs, .refl _, h⟩
  | cons b _ ih =>
    intro xs h
    cases h with
    | cons h1 h2 =>
      obtain ⟨l, p, q⟩ := ih h2
      exact ⟨_ :: l, p.cons _, .cons h1 q⟩
  | swap a b l =>
    intro xs h
    cases h with
    | cons h1 h2 =>
      cases h2 with
      | cons h3 h4 => exact ⟨_, .swap .., .cons h3 (.cons h1 h4)⟩
  | trans _ _ ih1 ih2 =>
    intro xs h
    obtain ⟨l, p, q⟩ := ih1 h
    obtain ⟨l2, p2, q2⟩ := ih2 q
    exact ⟨l2, p2.trans p, q2⟩
theorem F2.of_mapM {A B : Type} {f : A → Option B} : ∀ {xs : List A} {ys : List B}, xs.mapM f = some ys → F2 (fun a b => f a = some b) xs ys
  | [], ys, h => by
    simp at h; subst h; exact .nil
  | a :: xs, ys, h => by
    rw [List.mapM_cons] at h
    simp only [bind, Option.bind_eq_some_iff, pure, Option.some.injEq] at h
    obtain ⟨b, h1, bs', h2, rfl⟩ := h
    exact .cons h1 (F2.of_mapM h2)
theorem F2.map {A B E : Type} {R : A → B → Prop} {Q : A → E → Prop} {g : B → E} (h : ∀ a b, R a b → Q a (g b)) : ∀ {xs : List A} {ys : List B}, F2 R xs ys → F2 Q xs (ys.map g)
  | _, _, .nil => .nil
  | _, _, .cons h1 h2 => .cons (h _ _ h1) (F2.map h h2)
theorem int_cells {e : TypeId} {ke : IntKind} {v : Value} {c : Int} (he : Tryd.prog.underlying e = some (.int ke)) (hf : v.formed Tryd.prog e = true) (h : v.cells.toList = [.int ke c]) : v = .int ke c := by
  cases v with
  | agg cs => simp [Value.formed, he] at hf
  | _ => simpa [Value.cells] using h
def rowR (H : Type) (kk ke : IntKind) (x : MapEntry) (y : Lit × DataW H) : Prop := ∃ a c : Int, x.key = .int kk a ∧ y.1 = .int kk a ∧ x.val = .int ke c ∧ y.2 = .lit (.int ke c)
theorem row_entries {H : Type} {enc : TypeId × Value → H} {w : World} {base : Nat} {sp : Nat → Bool} {held : Bool} {fuel : Nat} {k e : TypeId} {t : TypeId} {kk ke : IntKind} {cs : List Value} {dd : List (Lit × DataW H)} {p : List MemPlace}
    (ht : Tryd.prog.underlying t = some (.map k e)) (hk : Tryd.prog.underlying k = some (.int kk)) (he : Tryd.prog.underlying e = some (.int ke))
    (h : DataW.trod enc Tryd.prog w base sp held fuel t cs = some (.map dd, p)) :
    ∃ (b : Nat) (es : Array MapEntry) (clock : Nat), cs = [.map (some b)] ∧ w.heap[b]? = some (.map es clock) ∧ ∃ l : List MapEntry, l.Perm es.toList ∧ F2 (rowR H kk ke) l dd := by
  cases fuel with
  | zero => simp [DataW.trod] at h
  | succ n =>
    unfold DataW.trod at h
    simp only [ht] at h
    split at h
    all_goals first | (cases h; done) | (rename_i e1; cases e1; done) | skip
    all_goals try (simp at h; done)
    all_goals try (rename_i e1 _; cases e1; done)
    rename_i b hX
    injection hX with hX
    injection hX with a1 a2
    subst a1; subst a2
    split at h
    · rename_i es clock hb
      split at h
      · simp only [Option.bind_eq_some_iff] at h
        obtain ⟨entries, h1, h2⟩ := h
        split at h2
        · simp only [Option.some.injEq, Prod.mk.injEq, DataW.map.injEq] at h2
          obtain ⟨rfl, _⟩ := h2
          have f1 := F2.of_mapM h1
          have f2 : F2 (rowR H kk ke) es.toList (entries.map (·.1)) := f1.map fun x y hx => by
            simp only [Option.bind_eq_some_iff] at hx
            obtain ⟨key, g1, g2⟩ := hx
            split at g2
            · rename_i hf
              simp only [Option.map_eq_some_iff] at g2
              obtain ⟨z, g3, rfl⟩ := g2
              obtain ⟨a, e1, e2, _⟩ := Maps.keyOf_int_inv hk g1
              obtain ⟨c, e3, e4, _⟩ := DataW.trod_int he g3
              subst e4
              exact ⟨a, c, e1, e2, int_cells he hf e3, rfl⟩
            cases g2
          obtain ⟨l, hl, hf⟩ := F2.pull (sorted_perm _).symm f2
          exact ⟨b, es, clock, rfl, hb, l, hl, hf⟩
        cases h2
      cases h
    cases h
theorem rows_vr {W : World} {L : Nat → Prop} : ∀ {l : List MapEntry} {es : List (Nat × Nat)}, F2 (rowR Unit .u8 .i64) l (es.map fun e => (Lit.int .u8 (e.1 : Int), DataW.lit (.int .i64 (e.2 : Int)))) → VRs W L [] [] (es.map fun e => D.int .u8 (e.1 : Int)) (l.map (·.key)) ∧ VRs W L [] [] (es.map fun e => D.int .i64 (e.2 : Int)) (l.map (·.val))
  | [], [], _ => ⟨by simp only [List.map_nil, VRs], by simp only [List.map_nil, VRs]⟩
  | [], _ :: _, h => by cases h
  | _ :: _, [], h => by cases h
  | x :: l, e :: es, h => by
    cases h with
    | cons h1 h2 =>
      obtain ⟨a, c, g1, g2, g3, g4⟩ := h1
      injection g2 with _ g2
      injection g4 with g4
      injection g4 with _ g4
      subst g2; subst g4
      obtain ⟨r1, r2⟩ := rows_vr h2
      simp only [List.map_cons, VRs, VR]
      exact ⟨⟨_, _, rfl, g1, r1⟩, ⟨_, _, rfl, g3, r2⟩⟩
theorem table_GR {W : World} {n : String} {g : Nat} {cs : Array Value} {ds : List D} (hg : Tryd.prog.globalNamed n = some g) (hv : W.var? Tryd.prog n = some cs) (hne : ds ≠ []) (hd : valsD ds = some cs.toList) :
    g < W.heap.size ∧ GR W (fun _ => False) g ds := by
  have hcell : ∀ (j : Nat) (v : Value), cs.toList[j]? = some v → W.cell? ⟨g, 0 + j, none⟩ = some v := fun j v hj => by
    rw [Nat.zero_add, World.var?_cell hg hv j]
    simpa using hj
  have hlen : ∀ {ds : List D} {vs : List Value}, valsD ds = some vs → vs.length = ds.length := by
    intro ds
    induction ds with
    | nil => intro vs h; simp only [valsD] at h; injection h with h; subst h; rfl
    | cons d ds ih =>
      intro vs h
      simp only [valsD] at h
      split at h
      · rename_i h1 h2
        injection h with h; subst h
        rw [List.length_cons, List.length_cons, ih h2]
      cases h
  have hb : ∃ e fz, W.heap[g]? = some (.cells cs e fz) := by
    unfold World.var? at hv
    rw [hg, Option.bind_some] at hv
    split at hv
    · rename_i h; injection hv with hv; subst hv; exact ⟨_, _, h⟩
    cases hv
  obtain ⟨e, fz, hb⟩ := hb
  refine ⟨?_, VRL_vals hd hcell, cs, e, fz, hb, ?_⟩
  · apply Classical.byContradiction
    intro hn
    have : W.heap[g]? = none := by rw [Array.getElem?_eq_none_iff]; omega
    rw [this] at hb; cases hb
  have := hlen hd; simpa using this
def Laid3 (W : World) : Prop := ∀ (g : Nat) (cs : List D), (g, cs) ∈ Cg.gl → g < W.heap.size ∧ GR W (fun _ => False) g cs
theorem tables_laid {W : World} (h : laidMetH Tryd.prog Rows.scanSetsRow.laid W) : Laid3 W := by
  rw [MakeChecks.laidMetH_plain _ _ _ (by kernel_rfl)] at h
  obtain ⟨ps, ⟨g0, t0, cs0, f0, p0, q0, hg0, ht0, hv0, hd0, ⟨g1, t1, cs1, f1, p1, q1, hg1, ht1, hv1, hd1, ⟨g2, t2, cs2, f2, p2, q2, hg2, ht2, hv2, hd2, ⟨g3, t3, cs3, f3, p3, q3, hg3, ht3, hv3, hd3, ⟨g4, t4, cs4, f4, p4, q4, hg4, ht4, hv4, hd4, _, _⟩, _⟩, _⟩, _⟩, _⟩, _, _⟩ := h
  have e2 : Tryd.prog.globalNamed "internal/strconv.uint64pow10" = some 3 := by kernel_rfl
  have e3 : Tryd.prog.globalNamed "soroban/scanspec.rows" = some 0 := by kernel_rfl
  have e4 : Tryd.prog.globalNamed "soroban/scanspec.lengths" = some 1 := by kernel_rfl
  have y2 : (Tryd.prog.globals[3]?).map (·.type) = some 123 := by kernel_rfl
  have y3 : (Tryd.prog.globals[0]?).map (·.type) = some 95 := by kernel_rfl
  have y4 : (Tryd.prog.globals[1]?).map (·.type) = some 99 := by kernel_rfl
  obtain rfl := Option.some.inj (e2.symm.trans hg2)
  obtain rfl := Option.some.inj (e3.symm.trans hg3)
  obtain rfl := Option.some.inj (e4.symm.trans hg4)
  obtain rfl := Option.some.inj (y2.symm.trans ht2)
  obtain rfl := Option.some.inj (y3.symm.trans ht3)
  obtain rfl := Option.some.inj (y4.symm.trans ht4)
  have k2 := flat_ok 4 f2 123 cs2.toList _ (by kernel_rfl) hd2
  have k4 := flat_ok 4 f4 99 cs4.toList _ (by kernel_rfl) hd4
  have v2 : valsD powCells = flatV (Rows.laid_internal_strconv_uint64pow10 (H := Unit)) := by rfl
  have v4 : valsD lensA = flatV (Rows.laid_soroban_scanspec_lengths (H := Unit)) := by rfl
  have n2 : powCells ≠ [] := by intro h; cases h
  have n4 : lensA ≠ [] := by intro h; cases h
  have r2 := table_GR e2 hv2 n2 (v2.trans k2)
  have r4 := table_GR e4 hv4 n4 (v4.trans k4)
  obtain ⟨b, es, clock, c1, c2, l, c3, c4⟩ := row_entries (kk := .u8) (ke := .i64) Tryd.underlying95 Tryd.underlying5 Tryd.underlying3 hd3
  obtain ⟨m1, m2⟩ := rows_vr (W := W) (L := fun _ => False) (es := rowEs) c4
  have hb : ∃ e fz, W.heap[0]? = some (.cells cs3 e fz) := by
    unfold World.var? at hv3
    rw [e3, Option.bind_some] at hv3
    split at hv3
    · rename_i h; injection hv3 with hv3; subst hv3; exact ⟨_, _, h⟩
    cases hv3
  obtain ⟨e, fz, hb⟩ := hb
  have lt : ∀ {i : Nat} {o : Obj}, W.heap[i]? = some o → i < W.heap.size := fun {i o} hi => by
    apply Classical.byContradiction
    intro hn
    have : W.heap[i]? = none := by rw [Array.getElem?_eq_none_iff]; omega
    rw [this] at hi; cases hi
  have hc0 : W.cell? ⟨0, 0, none⟩ = some (.map (some b)) := by
    rw [World.var?_cell e3 hv3 0, ← Array.getElem?_toList, c1]; rfl
  intro g cs hg
  have hg : (g, cs) ∈ [(0, [D.mapv rowKs rowVs]), (1, lensA), (3, powCells)] := hg
  simp only [List.mem_cons, List.not_mem_nil, or_false, Prod.mk.injEq] at hg
  rcases hg with ⟨rfl, rfl⟩ | ⟨rfl, rfl⟩ | ⟨rfl, rfl⟩
  · refine ⟨lt hb, ?_, cs3, e, fz, hb, by have := congrArg List.length c1; simpa using this⟩
    simp only [VRL]
    refine ⟨⟨.map (some b), hc0, rfl, ?_⟩, trivial⟩
    simp only [VR]
    exact ⟨b, es, clock, rfl, lt c2, fun h => h, c2, l, c3, m1, m2⟩
  · exact r4
  exact r2
theorem SRg {W : World} (h : Laid3 W) : SR Cg (fun _ => False) W [] [] :=
  ⟨rfl, fun i o b h => by simp at h, fun i j oi oj b h => by simp at h, fun i o b h => by simp at h, fun b h => h.elim, fun g cs hg => by
    rw [forb0]
    exact ⟨(h g cs hg).1, fun h => h, (h g cs hg).2⟩⟩
theorem law_callsG {f : FuncId} {ds : List D} {W : World} {vs : List Value} (hl : Laid3 W) (hc : PC Cg f ds (fun o => o = .ret (.bool true))) (hv : VRs W (fun _ => False) [] [] ds vs) : Calls Tryd.prog f vs.toArray W fun e W' => e = .returned (.bool true) ∧ Below W.heap.size W W' := by
  have h := (hc []).2 (fun _ => False) W [] vs (SRg hl) (by rw [forb0]; exact hv)
  refine h.mono ?_
  rintro e W' ⟨o, H', μ', ⟨rfl, rfl⟩, _, ⟨v, he, hv'⟩, hevo⟩
  simp only [VR] at hv'
  subst hv'
  exact ⟨he, hevo.os, hevo.tape, hevo.output, hevo.size, fun k hk => hevo.chg k hk fun ⟨i, o, h, _⟩ => by simp at h⟩
end Go.V
/- THE ROWS OF SCAN SPECIFICATIONS: what a set and what a list of pieces read as. -/
set_option maxRecDepth 100000
namespace Go.V
open Go.RowKit Go.Proofs Go.ChangeShapes Go.WideShapes Go.ChangeAt Go.ChangeMaps Go.Proofs.YthankfodgdfgaaaDoor
section
variable {H : Type} {enc : TypeId × Value → H} {W : World}
theorem rng_u64 {n : Int} (h : (Lit.int .u64 n).wf = true) : 0 ≤ n ∧ n < 18446744073709551616 := by
  simp [Lit.wf, IntKind.min, IntKind.max, IntKind.signed, IntKind.bits] at h; omega
theorem set_cells {base : Nat} {sp : Nat → Bool} {held : Bool} {fuel : Nat} {c0 c1 c2 c3 : Value} {x : DataW H × List MemPlace} (h : DataW.trod enc Tryd.prog W base sp held fuel 28 [c0, c1, c2, c3] = some x) :
    ∃ S : Nat → Bool, c0 = .int .u64 ((sw S 0 : Nat) : Int) ∧ c1 = .int .u64 ((sw S 1 : Nat) : Int) ∧ c2 = .int .u64 ((sw S 2 : Nat) : Int) ∧ c3 = .int .u64 ((sw S 3 : Nat) : Int) := by
  obtain ⟨y0, y1, y2, y3, n, _, h0, h1, h2, h3⟩ := trod_array4 Tryd.underlying28 (by kernel_rfl) h
  obtain ⟨n0, e0, _, w0⟩ := DataW.trod_int Tryd.underlying27 h0
  obtain ⟨n1, e1, _, w1⟩ := DataW.trod_int Tryd.underlying27 h1
  obtain ⟨n2, e2, _, w2⟩ := DataW.trod_int Tryd.underlying27 h2
  obtain ⟨n3, e3, _, w3⟩ := DataW.trod_int Tryd.underlying27 h3
  injection e0 with e0; injection e1 with e1; injection e2 with e2; injection e3 with e3
  subst e0; subst e1; subst e2; subst e3
  have g0 := rng_u64 w0; have g1 := rng_u64 w1; have g2 := rng_u64 w2; have g3 := rng_u64 w3
  have hw := ofW_sw (w0 := n0.toNat) (w1 := n1.toNat) (w2 := n2.toNat) (w3 := n3.toNat) (by omega) (by omega) (by omega) (by omega)
  rw [show ((n0.toNat : Nat) : Int) = n0 by omega, show ((n1.toNat : Nat) : Int) = n1 by omega, show ((n2.toNat : Nat) : Int) = n2 by omega, show ((n3.toNat : Nat) : Int) = n3 by omega] at hw
  injection hw with a0 hw; injection hw with a1 hw; injection hw with a2 hw; injection hw with a3 hw
  injection a0 with _ a0; injection a1 with _ a1; injection a2 with _ a2; injection a3 with _ a3
  exact ⟨_, by rw [a0], by rw [a1], by rw [a2], by rw [a3]⟩
theorem vr_set {base : Nat} {v : Value} {d : DataW H} {p : List MemPlace} (hv : Value.okWide Tryd.prog W .any base 28 v) (h : DataW.Trod enc Tryd.prog W 0 (fun _ => true) true 28 v d p) :
    ∃ S : Nat → Bool, VR W (fun _ => False) [] [] (setD S) v := by
  simp only [Value.okWide, Tryd.underlying28] at hv
  obtain ⟨cs, rfl, hsz, _⟩ := hv
  have c28 : Tryd.prog.cellsOf 28 = 4 := by kernel_rfl
  rw [c28] at hsz
  obtain ⟨fuel, hf⟩ := h
  obtain ⟨l⟩ := cs
  match l, hsz with
  | [c0, c1, c2, c3], _ =>
    obtain ⟨S, rfl, rfl, rfl, rfl⟩ := set_cells hf
    refine ⟨S, ?_⟩
    simp only [VR, VRs]
    exact ⟨_, rfl, _, _, rfl, rfl, _, _, rfl, rfl, _, _, rfl, rfl, _, _, rfl, rfl, rfl⟩
end
end Go.V
/- A START THAT MEETS WHAT THE ROWS SAY OF THE TABLES: the map of rows laid by hand, the other tables by the kit's law. -/
set_option maxRecDepth 100000
namespace Go.V
open Go.RowKit Go.Proofs Go.ChangeShapes Go.WideShapes Go.ChangeAt Go.ChangeMaps Go.Proofs.YthankfodgdfgaaaDoor
def rowMap : Obj := .map (rowEs.zipIdx.map fun x => (⟨.int .u8 (x.1.1 : Int), .int .i64 (x.1.2 : Int), x.2⟩ : MapEntry)).toArray 20
def setRow (b : Nat) : Obj → Obj
  | .cells _ t frozen => .cells #[.map (some b)] t frozen
  | o => o
noncomputable def mapN (os : Os) : Nat := (World.settled Tryd.prog os).heap.size
noncomputable def mapW0 (os : Os) : World :=
  let w := World.holding Tryd.prog os ⟨#[rowMap], #[], []⟩
  { w with heap := w.heap.modify 0 (setRow (mapN os)) }
def great4 : List String := ["math/bits.deBruijn32tab", "math/bits.deBruijn64tab", "internal/strconv.uint64pow10", "soroban/scanspec.lengths"]
def laid5 : List (String × DataW Unit) := Rows.scanSetsRow.laid
noncomputable def mapW (os : Os) : World := (mapW0 os).layVars Tryd.prog (laid5.filter fun x => great4.contains x.1)
theorem mapW_os (os : Os) : (mapW os).os = os := by unfold mapW; rw [World.layVars_os]; rfl
theorem mapW_shaped (os : Os) : (mapW os).Shaped Tryd.prog := World.shaped_of_ZipB (by kernel_rfl) (by kernel_rfl)
theorem mapW_in (os : Os) : LaidIn Tryd.prog (mapW os) (laid5.filter fun x => !great4.contains x.1) [0, mapN os] :=
  LaidIn.of_run [0, mapN os] 8 (by kernel_rfl) (by kernel_rfl) (by kernel_rfl) (by kernel_rfl)
theorem mapW_laid (os : Os) : laidMet Tryd.prog laid5 (mapW os) :=
  laidMet_layVars (w0 := mapW0 os) great4 [0, mapN os] rfl (by kernel_rfl) (by kernel_rfl) (mapW_in os)
theorem mapW_met (os : Os) (args : Array Value) : laidMetH Tryd.prog Rows.scanSetsRow.laid ((mapW os).forCall (fun _ _ => 0) ⟨#[], args, []⟩).memory := by
  rw [MakeChecks.laidMetH_plain _ _ _ (by kernel_rfl)]
  exact (mapW_laid os).of_heap (by simp [World.memory, World.forCall, Input.heap])
end Go.V
/- The closed facts of a row, one by one: what holds of the program itself, and how they are joined; no condition. -/
set_option maxRecDepth 100000
namespace Go.V
open Go.Proofs
theorem and_t {a b : Bool} (h1 : a = true) (h2 : b = true) : (a && b) = true := by rw [h1, h2]; rfl
theorem joined_of {P : Program} {f : FuncId} {fn : Func} {s : ChangeSpec} {c : OpenClaim}
    (k1 : (c.wf (OpenSpec.ofChange s)) = true)
    (k2 : (laidOutB P) = true)
    (k3 : (mapsRowed P) = true)
    (k4 : (fn.params.all (P.readableRec ·)) = true)
    (k5 : (namedTie P c.named s.vars) = true)
    (k6 : (c.stops == []) = true)
    (k7 : (P.stops == []) = true)
    (k8 : (c.knobs == []) = true)
    (k9 : (P.stopKnobs == []) = true)
    (k10 : (c.inPlace == P.inPlace f) = true)
    (k11 : (c.unfollowed == P.unfollowed f) = true)
    (k12 : (c.recurses == P.recurses f) = true)
    (k13 : (c.named == P.varsNamed f) = true)
    (k14 : ((c.maps == (fn.params.toList ++ s.plain.varTypes P).any (P.mapsRec ·))) = true)
    (k15 : ((c.ifaces == (fn.params.toList ++ s.plain.varTypes P).any (P.ifacesRec ·))) = true)
    (k16 : (c.mapsOut == P.mapsAmong fn.resultTypes.toList) = true)
    (k17 : ((c.loops == (fn.params.toList ++ s.plain.varTypes P).any (P.loopsFrom ·))) = true)
    (k18 : ((c.wideKeys == (fn.params.toList ++ s.plain.varTypes P ++ fn.resultTypes.toList).any (P.wideKeysFrom ·))) = true)
    (k19 : (s.vars.all (P.varReadable ·)) = true)
    (k20 : (fn.resultTypes.all (fun t => P.readableRec t && decide (t < P.types.size))) = true)
    (k21 : ((c.ifacesOut == fn.resultTypes.toList.any (P.ifacesRec ·))) = true)
    (k22 : ((c.loopsOut == fn.resultTypes.toList.any (P.loopsFrom ·))) = true)
    (k23 : (c.plainKeys == P.plainKeys) = true)
    (k24 : (c.shortTexts.isNone) = true)
    (k25 : (P.stopsHeard) = true)
    (k26 : (P.mayEnter) = true)
    (k27 : (c.lifted == P.liftsFinal) = true)
    (k28 : (P.make == some c.make) = true)
    (k29 : ((c.kinds == (if c.domain.isEmpty then [] else fn.params.toList.map fun t => match P.underlying t with | some (.int k) => some k | _ => none))) = true)
    (k30 : (c.pinned == c.pinnedBy) = true)
    (k31 : ((c.veiled == (fn.params.toList ++ s.plain.varTypes P ++ fn.resultTypes.toList).any (P.veiledRec ·))) = true)
    (k32 : (c.veiledFits P fn.params.toList (fn.params.toList ++ s.plain.varTypes P ++ fn.resultTypes.toList)) = true)
    : joinedFacts P f fn s c = true := by
  unfold joinedFacts
  exact and_t (and_t (and_t (and_t (and_t (and_t (and_t (and_t (and_t (and_t (and_t (and_t (and_t (and_t (and_t (and_t (and_t (and_t (and_t (and_t (and_t (and_t (and_t (and_t (and_t (and_t (and_t (and_t (and_t (and_t (and_t k1 k2) k3) k4) k5) k6) k7) k8) k9) k10) k11) k12) k13) k14) k15) k16) k17) k18) k19) k20) k21) k22) k23) k24) k25) k26) k27) k28) k29) k30) k31) k32
theorem z_maps : mapsRowed Tryd.prog = true := by kernel_rfl
theorem z_plainKeys : (Go.Proofs.YthankfodgdfgaaaDoor.Rows.scanSetsRow.plainKeys == Tryd.prog.plainKeys) = true := by kernel_rfl
theorem z_stopsHeard : Tryd.prog.stopsHeard = true := by kernel_rfl
theorem z_lifts : (Go.Proofs.YthankfodgdfgaaaDoor.Rows.scanSetsRow.lifted == Tryd.prog.liftsFinal) = true := by kernel_rfl
theorem z_make : (Tryd.prog.make == some Go.Proofs.YthankfodgdfgaaaDoor.Rows.scanSetsRow.make) = true := by kernel_rfl
theorem z_main : YthankfodgdfgaaaDoor.Tryd.pinned.checked.prog.mainIs = some (true, "4a358535a3fdcf16b8f6994064c82af79c63477f10344ea5494afcbe3a711897".toList) := by kernel_rfl
theorem z_looks : true = Tryd.prog.looks [] := by kernel_rfl
theorem z_enter : Tryd.prog.mayEnter = true := by kernel_rfl
end Go.V
