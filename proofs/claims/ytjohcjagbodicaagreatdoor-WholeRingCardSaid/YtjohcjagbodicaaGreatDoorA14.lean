/- A part of the proof: abstract values, rules for the steps of the program's form, and contracts of its functions, each proved; no condition. -/
import Derived.Test.YtjohcjagbodicaaGreatDoorA13
import Derived.Test.YtjohcjagbodicaaGreatDoorTie
import Derived.Test.YtjohcjagbodicaaGreatDoorCards
import Derived.ProofKit
import Derived.OpenShut
import Derived.LaidMore
import Derived.Lay
import Derived.SevenTiedAt
import Derived.Carry
import Derived.Stop.Joined
set_option linter.unusedVariables false
set_option linter.unusedSimpArgs false
set_option maxHeartbeats 4000000
set_option synthInstance.maxSize 100000
set_option synthInstance.maxHeartbeats 2000000
namespace Go.V
open Go.RowKit Go.Proofs

theorem fit_lt {z : Int} (h : z.natAbs < 4294967296) : fitZ z := by
  unfold fitZ
  have := ln_le (n := z.natAbs) (k := 1) (by rw [Nat.pow_one]; exact h)
  omega
theorem okI_of {z : Int} (h : fitZ z) : okI (decide (z < 0), lim z.natAbs) = true := by
  unfold okI
  rw [okB_lim h, Bool.true_and]
  by_cases h0 : z < 0
  · have := ln_pos.2 (show z.natAbs ≠ 0 by omega)
    rw [decide_eq_true (show 0 < (lim z.natAbs).length from this), Bool.or_true]
  · rw [decide_eq_false h0]; rfl
theorem okI_of2 {x y : Int} (hx : fitZ x) (hy : fitZ y) : [(decide (x < 0), lim x.natAbs), (decide (y < 0), lim y.natAbs)].all okI = true := by
  simp only [List.all_cons, List.all_nil, Bool.and_true, okI_of hx, okI_of hy]
theorem gcd_12_18 : gG 12 18 = 6 ∧ gcdX 12 18 = 2 ∧ gcdY 12 18 = -1 := by
  have h0 : (18 : Int) ≠ 0 := by decide
  have h1 : gG 12 18 = 6 := by decide
  have h2 := gcd_eq (a := 12) h0
  have h3 := gQ_mul (a := 12) h0
  rw [h1] at h2 h3
  have h4 : gQ 12 18 = 3 := by
    have : (18 : Int).natAbs = 18 := rfl
    omega
  have h5 : 0 ≤ gcdX 12 18 := by unfold gcdX; rw [if_neg h0, h4]; exact Int.emod_nonneg _ (by decide)
  have h6 : gcdX 12 18 < 3 := by unfold gcdX; rw [if_neg h0, h4]; exact Int.emod_lt_of_pos _ (by decide)
  refine ⟨h1, ?_, ?_⟩ <;> omega
theorem str_255 : strZ 16 true (-255) = [45, 70, 70] := by
  have h : txt 16 255 = [102, 102] := by
    unfold txt
    rw [if_neg (by decide), dgs_pos (by decide) (by decide), dgs_pos (by decide) (by decide), show 255 / 16 / 16 = 0 from rfl, dgs_zero]
    rfl
  unfold strZ
  rw [show (-255 : Int).natAbs = 255 from rfl, h]
  rfl
theorem q_strEqT {C : Ctx} {dst : Option Tmp} {x y : Operand} {xt yt ty : TypeId} {pos : String} {aft : Array Edge} {gd : Option (Nat × Bool)} {env : List D} {H : Heap} {s t : ByteArray} (hx : evO C env x = some (.str s)) (hy : evO C env y = some (.str t)) (h : s = t) : OpQ C ⟨dst, .binOp .eql xt x y yt, ty, pos, aft, gd⟩ env H (.bool true) := by
  have := o_strEq (C := C) (H := H) (dst := dst) (ty := ty) (pos := pos) (aft := aft) (gd := gd) (xt := xt) (yt := yt) hx hy
  rw [h, beq_self_eq_true] at this
  exact this
theorem pc_l_awake : PC C n_law02_awake [] (fun o => o = .ret (.bool true)) := by
  have hdiv : PC C n_whole_Div [intD (-7), intD 2, .int .i64 4] (fun o => o = .ret (.tup [intD (-4), intD 1, .int .i64 0])) := by
    refine (pc_w_Div (decide ((-7 : Int) < 0), lim (-7 : Int).natAbs) (decide ((2 : Int) < 0), lim (2 : Int).natAbs) (U32_lim _) (U32_lim _) 4).mono fun o ho => ?_
    rw [okI_of2 (fit_lt (by decide)) (fit_lt (by decide)), valI_int, valI_int, show divR 4 true (-7) 2 = ((-4, 1), 0) by decide] at ho
    exact ho
  have hgcd : PC C n_whole_Gcd [intD 12, intD 18] (fun o => o = .ret (.tup [intD 6, intD 2, intD (-1), .int .i64 0])) := by
    refine (pc_w_Gcd (decide ((12 : Int) < 0), lim (12 : Int).natAbs) (decide ((18 : Int) < 0), lim (18 : Int).natAbs) (U32_lim _) (U32_lim _)).mono fun o ho => ?_
    obtain ⟨e1, e2, e3⟩ := gcd_12_18
    rw [okI_of2 (fit_lt (by decide)) (fit_lt (by decide)), valI_int, valI_int] at ho
    simp only [gcdR, cond_true, e1, e2, e3] at ho
    exact ho
  have htext : PC C n_whole_Text [intD (-255), .int .i64 16, .bool true] (fun o => o = .ret (.tup [.str ⟨#[45, 70, 70]⟩, .int .i64 0])) := by
    refine (pc_w_Text (decide ((-255 : Int) < 0), lim (-255 : Int).natAbs) (U32_lim _) 16 true).mono fun o ho => ?_
    have : textR (decide ((-255 : Int) < 0), lim (-255 : Int).natAbs) 16 true = ([45, 70, 70], 0) := by
      unfold textR
      rw [okI_of (fit_lt (by decide)), valI_int, show (16 : Int).toNat = 16 from rfl, str_255]
      rfl
    rw [this] at ho
    exact ho
  have hs : ∀ x : Int, PC C n_R02_Same [intD x, intD x] (fun o => o = .ret (.bool true)) := fun x => (pc_s_Same x x).mono fun o ho => by rw [ho, decide_eq_true rfl]
  refine PC.run fn_law02_awake en_law02_awake rfl nt_law02_awake rfl (rs := [.tmp 0]) (by rw [rs_law02_awake]) (by simp only [List.length_cons, List.length_nil, Nat.reduceAdd, Nat.reduceSub, List.replicate_succ, List.replicate_zero, List.cons_append, List.nil_append]; exact rfl) ?_
  refine ARun.seq ?_
  refine ARun.region ?_
  refine y_op rfl (q_assign rfl) ?_
  refine AOps.nil ?_
  refine ARun.seq ?_
  refine ARun.region ?_
  refine y_op rfl (q_call rfl rfl (pc_w_FromInt (-7) (by decide) (by decide))) ?_
  refine y_new rfl (n_alloc rfl rfl rfl rfl) ?_
  refine y_new rfl (n_storeN rfl rfl rfl rfl rfl rfl rfl rfl (Nat.le_of_ble_eq_true rfl) rfl) ?_
  refine AOps.nil ?_
  refine ARun.seq ?_
  refine ARun.region ?_
  refine y_op rfl (q_call rfl rfl (pc_w_FromInt 2 (by decide) (by decide))) ?_
  refine y_new rfl (n_alloc rfl rfl rfl rfl) ?_
  refine y_new rfl (n_storeN rfl rfl rfl rfl rfl rfl rfl rfl (Nat.le_of_ble_eq_true rfl) rfl) ?_
  refine AOps.nil ?_
  refine ARun.seq ?_
  refine ARun.region ?_
  refine y_op rfl (q_loadAggP rfl rfl rfl rfl rfl rfl) ?_
  refine y_op rfl (q_loadAggP rfl rfl rfl rfl rfl rfl) ?_
  refine y_op rfl (q_call rfl rfl (hdiv)) ?_
  refine y_op rfl (q_move rfl) ?_
  refine y_op rfl (q_extract rfl rfl) ?_
  refine y_op rfl (q_extract rfl rfl) ?_
  refine y_op rfl (q_extract rfl rfl) ?_
  refine y_new rfl (n_alloc rfl rfl rfl rfl) ?_
  refine y_new rfl (n_alloc rfl rfl rfl rfl) ?_
  refine y_new rfl (n_storeN rfl rfl rfl rfl rfl rfl rfl rfl (Nat.le_of_ble_eq_true rfl) rfl) ?_
  refine y_new rfl (n_storeN rfl rfl rfl rfl rfl rfl rfl rfl (Nat.le_of_ble_eq_true rfl) rfl) ?_
  refine y_op rfl (q_assign rfl) ?_
  refine AOps.nil ?_
  refine ARun.seq ?_
  refine ARun.region ?_
  refine y_op rfl (q_call rfl rfl (pc_w_FromInt 12 (by decide) (by decide))) ?_
  refine y_op rfl (q_call rfl rfl (pc_w_FromInt 18 (by decide) (by decide))) ?_
  refine y_op rfl (q_call rfl rfl (hgcd)) ?_
  refine y_op rfl (q_move rfl) ?_
  refine y_op rfl (q_extract rfl rfl) ?_
  refine y_op rfl (q_extract rfl rfl) ?_
  refine y_op rfl (q_extract rfl rfl) ?_
  refine y_op rfl (q_extract rfl rfl) ?_
  refine y_new rfl (n_alloc rfl rfl rfl rfl) ?_
  refine y_new rfl (n_alloc rfl rfl rfl rfl) ?_
  refine y_new rfl (n_alloc rfl rfl rfl rfl) ?_
  refine y_new rfl (n_storeN rfl rfl rfl rfl rfl rfl rfl rfl (Nat.le_of_ble_eq_true rfl) rfl) ?_
  refine y_new rfl (n_storeN rfl rfl rfl rfl rfl rfl rfl rfl (Nat.le_of_ble_eq_true rfl) rfl) ?_
  refine y_new rfl (n_storeN rfl rfl rfl rfl rfl rfl rfl rfl (Nat.le_of_ble_eq_true rfl) rfl) ?_
  refine y_op rfl (q_assign rfl) ?_
  refine AOps.nil ?_
  refine ARun.seq ?_
  refine ARun.region ?_
  refine y_op rfl (q_call rfl rfl (pc_w_FromInt (-255) (by decide) (by decide))) ?_
  refine y_op rfl (q_call rfl rfl (htext)) ?_
  refine y_op rfl (q_move rfl) ?_
  refine y_op rfl (q_extract rfl rfl) ?_
  refine y_op rfl (q_extract rfl rfl) ?_
  refine y_op rfl (q_assign rfl) ?_
  refine y_op rfl (q_assign rfl) ?_
  refine AOps.nil ?_
  refine ARun.seq ?_
  refine ARun.drawnP 39 (fun _ => False) mixC rfl rfl (by kernel_rfl) (fun _ _ h => h.elim) ?_
  refine .op rfl (q_move rfl) ?_
  refine .op rfl (q_int rfl rfl rfl) ?_
  refine .op rfl (q_move rfl) ?_
  refine .op rfl (q_move rfl) ?_
  refine .op rfl (q_int rfl rfl rfl) ?_
  refine .op rfl (q_pick rfl rfl rfl rfl) ?_
  refine .op rfl (q_move rfl) ?_
  refine .op rfl (q_move rfl) ?_
  refine .op rfl (q_int rfl rfl rfl) ?_
  refine .op rfl (q_pick rfl rfl rfl rfl) ?_
  refine .op rfl (q_move rfl) ?_
  refine .op rfl (q_loadAggP rfl rfl rfl rfl rfl rfl) ?_
  refine .op rfl (q_call rfl rfl (pc_s_FromInt (-4) (by decide) (by decide))) ?_
  refine .op rfl (q_call rfl rfl (hs (-4))) ?_
  refine .op rfl (q_pick rfl rfl rfl rfl) ?_
  refine .op rfl (q_move rfl) ?_
  refine .op rfl (q_loadAggP rfl rfl rfl rfl rfl rfl) ?_
  refine .op rfl (q_call rfl rfl (pc_s_FromInt 1 (by decide) (by decide))) ?_
  refine .op rfl (q_call rfl rfl (hs 1)) ?_
  refine .op rfl (q_pick rfl rfl rfl rfl) ?_
  refine .op rfl (q_move rfl) ?_
  refine .op rfl (q_loadAggP rfl rfl rfl rfl rfl rfl) ?_
  refine .op rfl (q_call rfl rfl (pc_s_FromInt 6 (by decide) (by decide))) ?_
  refine .op rfl (q_call rfl rfl (hs 6)) ?_
  refine .op rfl (q_pick rfl rfl rfl rfl) ?_
  refine .op rfl (q_move rfl) ?_
  refine .op rfl (q_loadAggP rfl rfl rfl rfl rfl rfl) ?_
  refine .op rfl (q_call rfl rfl (pc_s_FromInt 2 (by decide) (by decide))) ?_
  refine .op rfl (q_call rfl rfl (hs 2)) ?_
  refine .op rfl (q_pick rfl rfl rfl rfl) ?_
  refine .op rfl (q_move rfl) ?_
  refine .op rfl (q_loadAggP rfl rfl rfl rfl rfl rfl) ?_
  refine .op rfl (q_call rfl rfl (pc_s_FromInt (-1) (by decide) (by decide))) ?_
  refine .op rfl (q_call rfl rfl (hs (-1))) ?_
  refine .op rfl (q_pick rfl rfl rfl rfl) ?_
  refine .op rfl (q_move rfl) ?_
  refine .op rfl (q_move rfl) ?_
  refine .op rfl (q_strEqT rfl rfl rfl) ?_
  refine .op rfl (q_pick rfl rfl rfl rfl) ?_
  refine .nil (fun hG => ?_)
  refine y_op rfl (q_assign rfl) ?_
  refine AOps.nil ?_
  -- RET results [(0,)]
  refine ARun.ret ?_
  refine ⟨_, _, _, .tmp rfl .nil, .cons (.same _) .nil, rfl, ?_⟩
  rfl
end Go.V


set_option maxHeartbeats 4000000
set_option synthInstance.maxSize 100000
set_option synthInstance.maxHeartbeats 2000000
namespace Go.V
open Go.RowKit Go.Proofs

theorem pc_l_Sums (d1 d2 : Bool × List Nat) (h1 : U32 d1.2) (h2 : U32 d2.2) : PC C n_law02_WholeSums [intA d1.1 d1.2, intA d2.1 d2.2] (fun o => o = .ret (.bool true)) := by
  refine PC.run fn_law02_WholeSums en_law02_WholeSums rfl nt_law02_WholeSums rfl (rs := [.tmp 4]) (by rw [rs_law02_WholeSums]) (by simp only [List.length_cons, List.length_nil, Nat.reduceAdd, Nat.reduceSub, List.replicate_succ, List.replicate_zero, List.cons_append, List.nil_append]; exact rfl) ?_
  refine ARun.seq ?_
  refine ARun.region ?_
  refine y_op rfl (q_boxF rfl rfl rfl rfl) ?_
  refine y_op rfl (q_boxF rfl rfl rfl rfl) ?_
  refine y_op rfl (q_assign rfl) ?_
  refine AOps.nil ?_
  refine ARun.seq ?_
  refine ARun.seq ?_
  refine ARun.region ?_
  refine y_op rfl (q_loadAgg rfl rfl rfl rfl rfl) ?_
  refine y_op rfl (q_call rfl rfl (pc_l_small d1 1200)) ?_
  refine y_op rfl (q_not rfl) ?_
  refine y_op rfl (q_move rfl) ?_
  -- guard: slot 16
  refine AOps.bool 16 rfl (fun g1 => ?_) (fun g1 => ?_)
  · skip
    refine y_skip rfl ?_
    refine y_skip rfl ?_
    refine y_skip rfl ?_
    refine y_op rfl (q_pick rfl rfl rfl rfl) ?_
    refine y_op rfl (q_move rfl) ?_
    refine y_skip rfl ?_
    refine y_skip rfl ?_
    refine y_skip rfl ?_
    refine y_skip rfl ?_
    refine y_skip rfl ?_
    refine y_skip rfl ?_
    refine y_skip rfl ?_
    refine y_skip rfl ?_
    refine y_op rfl (q_pick rfl rfl rfl rfl) ?_
    refine AOps.nil ?_
    -- COND on ('t', 30)
    refine ARun.condT rfl ?_
    refine ARun.seq ?_
    refine ARun.region ?_
    refine y_op rfl (q_call rfl rfl (pc_l_awake)) ?_
    refine y_op rfl (q_assign rfl) ?_
    refine AOps.nil ?_
    -- RET results [(4,)]
    refine ARun.ret ?_
    refine ⟨_, _, _, .tmp rfl .nil, .cons (.same _) .nil, rfl, ?_⟩
    rfl
  · skip
    have g1 : d1.2.length ≤ 1200 := by simpa using g1
    refine y_op rfl (q_loadAgg rfl rfl rfl rfl rfl) ?_
    refine y_op rfl (q_call rfl rfl (pc_l_small d2 1200)) ?_
    refine y_op rfl (q_not rfl) ?_
    refine y_op rfl (q_pick rfl rfl rfl rfl) ?_
    refine y_op rfl (q_move rfl) ?_
    -- guard: slot 21
    refine AOps.bool 21 rfl (fun g2 => ?_) (fun g2 => ?_)
    · skip
      refine y_skip rfl ?_
      refine y_skip rfl ?_
      refine y_skip rfl ?_
      refine y_skip rfl ?_
      refine y_skip rfl ?_
      refine y_skip rfl ?_
      refine y_skip rfl ?_
      refine y_skip rfl ?_
      refine y_op rfl (q_pick rfl rfl rfl rfl) ?_
      refine AOps.nil ?_
      -- COND on ('t', 30)
      refine ARun.condT rfl ?_
      refine ARun.seq ?_
      refine ARun.region ?_
      refine y_op rfl (q_call rfl rfl (pc_l_awake)) ?_
      refine y_op rfl (q_assign rfl) ?_
      refine AOps.nil ?_
      -- RET results [(4,)]
      refine ARun.ret ?_
      refine ⟨_, _, _, .tmp rfl .nil, .cons (.same _) .nil, rfl, ?_⟩
      rfl
    · skip
      have g2 : d2.2.length ≤ 1200 := by simpa using g2
      have hm : d1.2.length * d2.2.length ≤ 1200 * 1200 := Nat.mul_le_mul g1 g2
      refine y_op rfl (q_fldS rfl rfl rfl (by decide)) ?_
      refine y_op rfl (q_load rfl rfl rfl rfl) ?_
      refine y_op rfl (q_lenSl rfl rfl) ?_
      refine y_op rfl (q_fldS rfl rfl rfl (by decide)) ?_
      refine y_op rfl (q_load rfl rfl rfl rfl) ?_
      refine y_op rfl (q_lenSl rfl rfl) ?_
      refine y_op rfl (q_mul rfl rfl (nmul_i64 (by omega))) ?_
      refine y_op rfl (q_int rfl rfl rfl) ?_
      refine y_op rfl (q_pick rfl rfl rfl rfl) ?_
      refine AOps.nil ?_
      -- COND on ('t', 30)
      refine ARun.cond rfl (fun g3 => ?_) (fun g3 => ?_)
      · skip
        refine ARun.seq ?_
        refine ARun.region ?_
        refine y_op rfl (q_call rfl rfl (pc_l_awake)) ?_
        refine y_op rfl (q_assign rfl) ?_
        refine AOps.nil ?_
        -- RET results [(4,)]
        refine ARun.ret ?_
        refine ⟨_, _, _, .tmp rfl .nil, .cons (.same _) .nil, rfl, ?_⟩
        rfl
      · skip
        refine ARun.skip ?_
        refine ARun.seq ?_
        refine ARun.region ?_
        refine y_op rfl (q_loadAgg rfl rfl rfl rfl rfl) ?_
        refine y_op rfl (q_call rfl rfl (pc_w_Neg d1 h1)) ?_
        refine y_op rfl (q_move rfl) ?_
        refine y_op rfl (q_extract rfl rfl) ?_
        refine y_op rfl (q_extract rfl rfl) ?_
        refine y_new rfl (n_alloc rfl rfl rfl rfl) ?_
        refine y_new rfl (n_storeN rfl rfl rfl rfl rfl rfl rfl rfl (Nat.le_of_ble_eq_true rfl) rfl) ?_
        refine y_op rfl (q_assign rfl) ?_
        refine AOps.nil ?_
        refine ARun.seq ?_
        refine ARun.region ?_
        refine y_op rfl (q_loadAgg rfl rfl rfl rfl rfl) ?_
        refine y_op rfl (q_loadAgg rfl rfl rfl rfl rfl) ?_
        refine y_op rfl (q_call rfl rfl (pc_w_Add d1 d2 h1 h2)) ?_
        refine y_op rfl (q_move rfl) ?_
        refine y_op rfl (q_extract rfl rfl) ?_
        refine y_op rfl (q_extract rfl rfl) ?_
        refine y_new rfl (n_alloc rfl rfl rfl rfl) ?_
        refine y_new rfl (n_storeN rfl rfl rfl rfl rfl rfl rfl rfl (Nat.le_of_ble_eq_true rfl) rfl) ?_
        refine y_op rfl (q_assign rfl) ?_
        refine AOps.nil ?_
        refine ARun.seq ?_
        refine ARun.region ?_
        refine y_op rfl (q_loadAgg rfl rfl rfl rfl rfl) ?_
        refine y_op rfl (q_loadAgg rfl rfl rfl rfl rfl) ?_
        refine y_op rfl (q_call rfl rfl (pc_w_Sub d1 d2 h1 h2)) ?_
        refine y_op rfl (q_move rfl) ?_
        refine y_op rfl (q_extract rfl rfl) ?_
        refine y_op rfl (q_extract rfl rfl) ?_
        refine y_new rfl (n_alloc rfl rfl rfl rfl) ?_
        refine y_new rfl (n_storeN rfl rfl rfl rfl rfl rfl rfl rfl (Nat.le_of_ble_eq_true rfl) rfl) ?_
        refine y_op rfl (q_assign rfl) ?_
        refine AOps.nil ?_
        refine ARun.seq ?_
        refine ARun.region ?_
        refine y_op rfl (q_loadAgg rfl rfl rfl rfl rfl) ?_
        refine y_op rfl (q_loadAgg rfl rfl rfl rfl rfl) ?_
        refine y_op rfl (q_call rfl rfl (pc_w_Mul d1 d2 h1 h2)) ?_
        refine y_op rfl (q_move rfl) ?_
        refine y_op rfl (q_extract rfl rfl) ?_
        refine y_op rfl (q_extract rfl rfl) ?_
        refine y_new rfl (n_alloc rfl rfl rfl rfl) ?_
        refine y_new rfl (n_storeN rfl rfl rfl rfl rfl rfl rfl rfl (Nat.le_of_ble_eq_true rfl) rfl) ?_
        refine y_op rfl (q_assign rfl) ?_
        refine AOps.nil ?_
        refine ARun.seq ?_
        refine ARun.drawnP 32 (fun _ => False) mixC rfl rfl (by kernel_rfl) (fun _ _ h => h.elim) ?_
        refine .op rfl (q_call rfl rfl (pc_l_awake)) ?_
        refine .op rfl (q_move rfl) ?_
        refine .op rfl (q_loadAggP rfl rfl rfl rfl rfl rfl) ?_
        refine .op rfl (q_move rfl) ?_
        refine .op rfl (q_loadAgg rfl rfl rfl rfl rfl) ?_
        refine .op rfl (q_call rfl rfl (pc_s_Neg d1 h1)) ?_
        refine .op rfl (q_call rfl rfl (pc_l_got (resZ ([d1].all okI) (.inl (-valI d1))))) ?_
        refine .op rfl (q_pick rfl rfl rfl rfl) ?_
        refine .op rfl (q_move rfl) ?_
        refine .op rfl (q_loadAggP rfl rfl rfl rfl rfl rfl) ?_
        refine .op rfl (q_move rfl) ?_
        refine .op rfl (q_loadAgg rfl rfl rfl rfl rfl) ?_
        refine .op rfl (q_loadAgg rfl rfl rfl rfl rfl) ?_
        refine .op rfl (q_call rfl rfl (pc_s_Add d1 d2 h1 h2)) ?_
        refine .op rfl (q_call rfl rfl (pc_l_got (resZ ([d1, d2].all okI) (fitO (valI d1 + valI d2))))) ?_
        refine .op rfl (q_pick rfl rfl rfl rfl) ?_
        refine .op rfl (q_move rfl) ?_
        refine .op rfl (q_loadAggP rfl rfl rfl rfl rfl rfl) ?_
        refine .op rfl (q_move rfl) ?_
        refine .op rfl (q_loadAgg rfl rfl rfl rfl rfl) ?_
        refine .op rfl (q_loadAgg rfl rfl rfl rfl rfl) ?_
        refine .op rfl (q_call rfl rfl (pc_s_Sub d1 d2 h1 h2)) ?_
        refine .op rfl (q_call rfl rfl (pc_l_got (resZ ([d1, d2].all okI) (fitO (valI d1 - valI d2))))) ?_
        refine .op rfl (q_pick rfl rfl rfl rfl) ?_
        refine .op rfl (q_move rfl) ?_
        refine .op rfl (q_loadAggP rfl rfl rfl rfl rfl rfl) ?_
        refine .op rfl (q_move rfl) ?_
        refine .op rfl (q_loadAgg rfl rfl rfl rfl rfl) ?_
        refine .op rfl (q_loadAgg rfl rfl rfl rfl rfl) ?_
        refine .op rfl (q_call rfl rfl (pc_s_Mul d1 d2 h1 h2)) ?_
        refine .op rfl (q_call rfl rfl (pc_l_got (resZ ([d1, d2].all okI) (fitO (valI d1 * valI d2))))) ?_
        refine .op rfl (q_pick rfl rfl rfl rfl) ?_
        refine .nil (fun hG => ?_)
        refine y_op rfl (q_assign rfl) ?_
        refine AOps.nil ?_
        -- RET results [(4,)]
        refine ARun.ret ?_
        refine ⟨_, _, _, .tmp rfl .nil, .cons (.same _) .nil, rfl, ?_⟩
        rfl
end Go.V


/- THE ROWS: what the arguments read as, and what is left behind a call. -/
set_option maxRecDepth 100000
namespace Go.V
open Go.RowKit Go.Proofs Go.ChangeShapes Go.WideShapes Go.ChangeAt Go.ChangeMaps

theorem laidOutZ : laidOutB Tryz.prog = true := by kernel_rfl
theorem ownZ : ownKnob Tryz.prog.godebug = none := by kernel_rfl
theorem cell_lt {w : World} {a : Addr} {v : Value} (h : w.cell? a = some v) : a.block < w.heap.size := by
  apply Classical.byContradiction
  intro hn
  have : w.heap[a.block]? = none := by rw [Array.getElem?_eq_none_iff]; omega
  simp [World.cell?, this] at h
theorem SR0 (W : World) : SR C (fun _ => False) W [] [] :=
  ⟨rfl, fun i o b h => by simp at h, fun i j oi oj b h => by simp at h, fun i o b h => by simp at h, fun b h => h.elim, fun g cs h => by cases h⟩
theorem forb0 : forb (fun _ => False) [] [] = fun _ => False := by
  funext b
  apply propext
  constructor
  · rintro (h | ⟨i, o, h, _⟩)
    · exact h
    · simp at h
  · exact fun h => h.elim

section
variable {H : Type} {enc : TypeId × Value → H} {W : World}

theorem vr_limbs {fuel : Nat} {cs : List Value} {x : DataW H × List MemPlace} (h : DataW.trod enc Tryz.prog W 0 (fun _ => true) true fuel 23 cs = some x) :
    ∃ (v : Value) (xs : List Nat), cs = [v] ∧ U32 xs ∧ VR W (fun _ => False) [] [] (sln .u32 xs) v := by
  rcases open_ints Tryz.underlying23 Tryz.underlying54 (by kernel_rfl) h with ⟨rfl, _⟩ | ⟨a, len, cap, zs, rfl, _, hl, hm, hz, _, hcell, hwf⟩
  · refine ⟨_, [], rfl, fun _ h => (by cases h), ?_⟩
    simp only [VR]
    exact ⟨none, 0, rfl, Nat.le_refl _, Nat.zero_le _, fun h => (h rfl).elim⟩
  · simp only [if_true] at hz
    have hb : ∀ n ∈ zs, 0 ≤ n ∧ n < 4294967296 := by
      intro n hn
      have := hwf n hn
      simp [Lit.wf, IntKind.min, IntKind.max, IntKind.signed, IntKind.bits] at this
      omega
    have hu : U32 ((zs.take len).map Int.toNat) := by
      intro y hy
      obtain ⟨n, hn, rfl⟩ := List.mem_map.1 hy
      have := hb n (List.mem_of_mem_take hn)
      show n.toNat < 4294967296
      omega
    have hlen : ((zs.take len).map Int.toNat).length = len := by rw [List.length_map, List.length_take]; omega
    refine ⟨_, (zs.take len).map Int.toNat, rfl, hu, ?_⟩
    have hget : ∀ j : Nat, j < len → nts .u32 ((zs.take len).map Int.toNat) = nts .u32 ((zs.take len).map Int.toNat) → ((nts .u32 ((zs.take len).map Int.toNat))[j]? = some (.int .u32 (zs.getD j 0))) := by
      intro j hj _
      have hjz : j < zs.length := by omega
      have hn := hb (zs[j]'hjz) (List.getElem_mem hjz)
      simp only [nts, List.map_map, List.getElem?_map, List.getElem?_take, if_pos hj, List.getElem?_eq_getElem hjz, Option.map_some, Function.comp, List.getD_eq_getElem?_getD, Option.getD_some]
      congr 2
      omega
    simp only [VR]
    refine ⟨some a, cap, by rw [hlen], by rw [hlen]; exact hl, hm, fun hne => ⟨a, rfl, ?_, id, VRL_mk fun j d hd => ?_⟩⟩
    · have h0 : 0 < zs.length := by
        rcases Nat.eq_zero_or_pos zs.length with h | h
        · have : zs = [] := List.eq_nil_of_length_eq_zero h
          subst this
          simp [nts] at hne
        · exact h
      exact cell_lt (hcell 0 h0)
    · have hj : j < len := by
        have := (List.getElem?_eq_some_iff.1 hd).1
        simp only [nts, List.length_map, List.length_take] at this
        omega
      rw [hget j hj rfl] at hd
      injection hd with hd
      subst hd
      exact ⟨_, by rw [Nat.zero_add]; exact hcell j (by omega), rfl, by simp only [VR]⟩
theorem vr_Int {base : Nat} {v : Value} {d : DataW H} {p : List MemPlace} (hv : Value.okWide Tryz.prog W .any base 25 v) (h : DataW.Trod enc Tryz.prog W 0 (fun _ => true) true 25 v d p) :
    ∃ e : Bool × List Nat, U32 e.2 ∧ VR W (fun _ => False) [] [] (.agg [.bool e.1, sln .u32 e.2]) v := by
  obtain ⟨cs, rfl, hsz⟩ := okWide_struct Tryz.underlying25 hv
  obtain ⟨fuel, hf⟩ := h
  obtain ⟨y0, y1, n, _, hl, h0, h1⟩ := trod_struct2 Tryz.underlying25 hf
  have c25 : Tryz.prog.cellsOf 25 = 2 := by kernel_rfl
  have c4 : Tryz.prog.cellsOf 4 = 1 := by kernel_rfl
  have c23 : Tryz.prog.cellsOf 23 = 1 := by kernel_rfl
  rw [c25] at hsz
  obtain ⟨l⟩ := cs
  match l, hsz with
  | [c0, c1], _ =>
    simp only [Value.cells] at h0 h1
    rw [c4] at h0
    rw [c23] at h1
    obtain ⟨b, e0, _⟩ := DataW.trod_bool Tryz.underlying4 h0
    obtain ⟨v1, xs, e1, hu, hx⟩ := vr_limbs h1
    simp at e0 e1
    subst e0; subst e1
    refine ⟨(b, xs), hu, ?_⟩
    simp only [VR, VRs]
    refine ⟨[.bool b, c1], rfl, .bool b, [c1], rfl, rfl, c1, [], rfl, ?_, rfl⟩
    simpa only [VR] using hx

theorem vr_int {base : Nat} {v : Value} {d : DataW H} {p : List MemPlace} (hv : Value.okWide Tryz.prog W .any base 3 v) (h : DataW.Trod enc Tryz.prog W 0 (fun _ => true) true 3 v d p) :
    ∃ n : Int, -9223372036854775808 ≤ n ∧ n ≤ 9223372036854775807 ∧ VR W (fun _ => False) [] [] (.int .i64 n) v := by
  obtain ⟨n, rfl, _, _, hw⟩ := open_int Tryz.underlying3 hv h
  simp [Lit.wf, IntKind.min, IntKind.max, IntKind.signed, IntKind.bits] at hw
  exact ⟨n, by omega, by omega, by simp only [VR]⟩
theorem trodAll_stays {W' : World} (hb : Below W.heap.size W W') {sp : Nat → Bool} : ∀ {ts : List TypeId} {vs : List Value} {ds : List (DataW H)} {p : List MemPlace}, (∀ t ∈ ts, Tryz.prog.readableRec t = true ∧ t < Tryz.prog.types.size) →
    DataW.TrodAll enc Tryz.prog W 0 (fun _ => true) true ts vs ds p → (∀ x ∈ p, x.block < W.heap.size ∧ sp x.block = true) → DataW.TrodAll enc Tryz.prog W' 0 sp true ts vs ds p
  | [], _, _, _, _, h, _ => by
    obtain ⟨rfl, rfl, rfl⟩ := trodAll_nil h
    simp [DataW.TrodAll]
  | t :: ts, _, _, _, ht, h, hp => by
    obtain ⟨v, vs, d, ds, a, b, rfl, rfl, rfl, h1, h2⟩ := trodAll_cons h
    obtain ⟨r1, r2⟩ := ht t (List.mem_cons_self ..)
    exact ⟨a, b, WideElems.Trod_stays laidOutZ r1 r2 h1 (fun x hx => hb.same (hp x (List.mem_append_left _ hx)).1) (fun x hx => (hp x (List.mem_append_left _ hx)).2),
      trodAll_stays hb (fun t ht' => ht t (List.mem_cons_of_mem _ ht')) h2 (fun x hx => hp x (List.mem_append_right _ hx)), rfl⟩
theorem law_post {fn : Func} {s : ChangeSpec} {W' : World} {args : Array Value} {ds : List (DataW H)} {before : List MemPlace} (hs : s.vars = []) (hW : DataW.Whole enc Tryz.prog fn.params.toList s.vars false W args.toList ds [] before) (hf : s.fn H ds = { results := [.lit (.bool true)], args := ds })
    (hr : fn.resultTypes = #[4]) (hts : ∀ t ∈ fn.params.toList, Tryz.prog.readableRec t = true ∧ t < Tryz.prog.types.size) (hb : Below W.heap.size W W') : s.post enc Tryz.prog fn false true false false W args (.bool true) W' := by
  have hW' := hW
  obtain ⟨p, q, hA, hV, rfl, _, _⟩ := hW
  rw [hs] at hV
  obtain ⟨_, rfl⟩ := trodVars_none hV
  have hlt : ∀ x ∈ p, x.block < W.heap.size := fun x hx => by simpa using hW'.lt x (List.mem_append_left _ hx)
  refine ⟨ds, [], p ++ [], [], p, [], hW', ?_, ?_, ?_, hb.frame _, fun h => by cases h⟩
  · rw [List.append_nil, hf, hr]
    exact trodAll_mk1 (shut_bool Tryz.underlying4 _)
  · rw [List.append_nil, hf]
    exact trodAll_stays hb hts hA fun x hx => ⟨hlt x hx, by simpa using hlt x hx⟩
  · rw [List.append_nil, hf, hs]
    rfl
end

/-- A law's call, out of its contract. -/
theorem law_calls {f : FuncId} {ds : List D} {W : World} {vs : List Value} (hc : PC C f ds (fun o => o = .ret (.bool true))) (hv : VRs W (fun _ => False) [] [] ds vs) : Calls Tryz.prog f vs.toArray W fun e W' => e = .returned (.bool true) ∧ Below W.heap.size W W' := by
  have h := (hc []).2 (fun _ => False) W [] vs (SR0 W) (by rw [forb0]; exact hv)
  refine h.mono ?_
  rintro e W' ⟨o, H', μ', ⟨rfl, rfl⟩, _, ⟨v, he, hv'⟩, hevo⟩
  simp only [VR] at hv'
  subst hv'
  exact ⟨he, hevo.os, hevo.tape, hevo.output, hevo.size, fun k hk => hevo.chg k hk fun ⟨i, o, h, _⟩ => by simp at h⟩
end Go.V

/- The closed facts of a row, one by one: what holds of the program itself, and how they are joined; no condition. -/
set_option maxRecDepth 100000
namespace Go.V
open Go.Proofs

theorem and_t {a b : Bool} (h1 : a = true) (h2 : b = true) : (a && b) = true := by rw [h1, h2]; rfl
theorem joined_of {P : Program} {f : FuncId} {fn : Func} {s : ChangeSpec} {c : OpenClaim}
    (k1 : (c.wf (OpenSpec.ofChange s)) = true)
    (k2 : (laidOutB P) = true)
    (k3 : (mapsRowed P) = true)
    (k4 : (fn.params.all (P.readableRec ·)) = true)
    (k5 : (namedTie P c.named s.vars) = true)
    (k6 : (c.stops == []) = true)
    (k7 : (P.stops == []) = true)
    (k8 : (c.knobs == []) = true)
    (k9 : (P.stopKnobs == []) = true)
    (k10 : (c.inPlace == P.inPlace f) = true)
    (k11 : (c.unfollowed == P.unfollowed f) = true)
    (k12 : (c.recurses == P.recurses f) = true)
    (k13 : (c.named == P.varsNamed f) = true)
    (k14 : ((c.maps == (fn.params.toList ++ s.plain.varTypes P).any (P.mapsRec ·))) = true)
    (k15 : ((c.ifaces == (fn.params.toList ++ s.plain.varTypes P).any (P.ifacesRec ·))) = true)
    (k16 : (c.mapsOut == P.mapsAmong fn.resultTypes.toList) = true)
    (k17 : ((c.loops == (fn.params.toList ++ s.plain.varTypes P).any (P.loopsFrom ·))) = true)
    (k18 : ((c.wideKeys == (fn.params.toList ++ s.plain.varTypes P ++ fn.resultTypes.toList).any (P.wideKeysFrom ·))) = true)
    (k19 : (s.vars.all (P.varReadable ·)) = true)
    (k20 : (fn.resultTypes.all (fun t => P.readableRec t && decide (t < P.types.size))) = true)
    (k21 : ((c.ifacesOut == fn.resultTypes.toList.any (P.ifacesRec ·))) = true)
    (k22 : ((c.loopsOut == fn.resultTypes.toList.any (P.loopsFrom ·))) = true)
    (k23 : (c.plainKeys == P.plainKeys) = true)
    (k24 : (c.shortTexts.isNone) = true)
    (k25 : (P.stopsHeard) = true)
    (k26 : (P.mayEnter) = true)
    (k27 : (c.lifted == P.liftsFinal) = true)
    (k28 : (P.make == some c.make) = true)
    (k29 : ((c.kinds == (if c.domain.isEmpty then [] else fn.params.toList.map fun t => match P.underlying t with | some (.int k) => some k | _ => none))) = true)
    (k30 : (c.pinned == c.pinnedBy) = true)
    (k31 : ((c.veiled == (fn.params.toList ++ s.plain.varTypes P ++ fn.resultTypes.toList).any (P.veiledRec ·))) = true)
    (k32 : (c.veiledFits P fn.params.toList (fn.params.toList ++ s.plain.varTypes P ++ fn.resultTypes.toList)) = true)
    : joinedFacts P f fn s c = true := by
  unfold joinedFacts
  exact and_t (and_t (and_t (and_t (and_t (and_t (and_t (and_t (and_t (and_t (and_t (and_t (and_t (and_t (and_t (and_t (and_t (and_t (and_t (and_t (and_t (and_t (and_t (and_t (and_t (and_t (and_t (and_t (and_t (and_t (and_t k1 k2) k3) k4) k5) k6) k7) k8) k9) k10) k11) k12) k13) k14) k15) k16) k17) k18) k19) k20) k21) k22) k23) k24) k25) k26) k27) k28) k29) k30) k31) k32
theorem z_maps : mapsRowed Tryz.prog = true := by kernel_rfl
theorem z_plainKeys : (Go.Proofs.YtjohcjagbodicaaGreatDoor.Rows.wholeSumsRow.plainKeys == Tryz.prog.plainKeys) = true := by kernel_rfl
theorem z_stopsHeard : Tryz.prog.stopsHeard = true := by kernel_rfl
theorem z_lifts : (Go.Proofs.YtjohcjagbodicaaGreatDoor.Rows.wholeSumsRow.lifted == Tryz.prog.liftsFinal) = true := by kernel_rfl
theorem z_make : (Tryz.prog.make == some Go.Proofs.YtjohcjagbodicaaGreatDoor.Rows.wholeSumsRow.make) = true := by kernel_rfl
theorem z_main : YtjohcjagbodicaaGreatDoor.Tryz.pinned.checked.prog.mainIs = some (true, "5b8a1e8da34a88fc5bd34c331ad38cb7b46866bf85af6ffc6bc920dabf7d6da1".toList) := by kernel_rfl
theorem z_looks : true = Tryz.prog.looks [] := by kernel_rfl
theorem z_enter : Tryz.prog.mayEnter = true := by kernel_rfl
end Go.V

set_option maxHeartbeats 4000000
set_option synthInstance.maxSize 100000
set_option synthInstance.maxHeartbeats 2000000
namespace Go.V
open Go.RowKit Go.Proofs

def toU (xs : List Nat) : Nat × Int := bif okB xs then (if xs.length ≤ 2 then (val xs, 0) else (0, 3)) else (0, 1)
theorem two_digs {a : Nat} (h : (lim a).length ≤ 2) : dig a 0 + dig a 1 * 2 ^ 32 = a := by
  have h1 := ln_le_iff.1 h
  rw [B_two] at h1
  unfold dig
  rw [Nat.pow_zero, Nat.div_one, Nat.pow_one, B_eq]
  omega
theorem pc_nat_ToUint (xs : List Nat) (hx : U32 xs) : PC C n_nat_ToUint [sln .u32 xs] (fun o => o = .ret (.tup [.int .u64 ((toU xs).1 : Nat), .int .i64 (toU xs).2])) := by
  refine PC.run fn_nat_ToUint en_nat_ToUint rfl nt_nat_ToUint rfl (rs := [.tmp 2, .tmp 3]) (by rw [rs_nat_ToUint]) (by simp only [List.length_cons, List.length_nil, Nat.reduceAdd, Nat.reduceSub, List.replicate_succ, List.replicate_zero, List.cons_append, List.nil_append]; exact rfl) ?_
  refine ARun.seq ?_
  refine ARun.region ?_
  refine y_op rfl (q_assign rfl) ?_
  refine y_op rfl (q_assign rfl) ?_
  refine AOps.nil ?_
  refine ARun.seq ?_
  refine ARun.block ?_
  refine ARun.seq ?_
  refine ARun.region ?_
  refine y_op rfl (q_move rfl) ?_
  refine y_op rfl (q_call rfl rfl (pc_nat_Valid xs (okNatDec xs))) ?_
  refine y_op rfl (q_not rfl) ?_
  refine y_op rfl (q_assign rfl) ?_
  refine AOps.nil ?_
  -- COND on ('t', 4)
  refine ARun.cond rfl (fun h => ?_) (fun h => ?_)
  · skip
    have h : okB xs = false := by simpa [okB] using h
    refine ARun.seq ?_
    refine ARun.region ?_
    refine y_op rfl (q_assign rfl) ?_
    refine y_op rfl (q_assign rfl) ?_
    refine AOps.nil ?_
    -- RET results [(2,), (3,)]
    refine ARun.ret ?_
    refine ⟨_, _, _, .tmp rfl (.tmp rfl .nil), .cons (.same _) (.cons (.same _) .nil), rfl, ?_⟩
    unfold toU; rw [h]; rfl
  · skip
    have h : okB xs = true := by simpa [okB] using h
    obtain ⟨a, rfl, ha⟩ := okNat_lim hx h
    refine ARun.seq ?_
    refine ARun.region ?_
    refine y_op rfl (q_move rfl) ?_
    refine y_op rfl (q_lenSl rfl rfl) ?_
    refine y_op rfl (q_int rfl rfl rfl) ?_
    refine y_op rfl (q_assign rfl) ?_
    refine AOps.nil ?_
    -- COND on ('t', 8)
    refine ARun.ite rfl (fun h2 => ?_) (fun h2 => ?_)
    · skip
      refine ARun.seq ?_
      refine ARun.region ?_
      refine y_op rfl (q_assign rfl) ?_
      refine y_op rfl (q_assign rfl) ?_
      refine AOps.nil ?_
      -- RET results [(2,), (3,)]
      refine ARun.ret ?_
      refine ⟨_, _, _, .tmp rfl (.tmp rfl .nil), .cons (.same _) (.cons (.same _) .nil), rfl, ?_⟩
      unfold toU; rw [h, cond_true, if_neg (by omega)]; rfl
    · skip
      have d0 := dig_lt a 0
      have d1 := dig_lt a 1
      refine ARun.skip ?_
      refine ARun.inBlock ?_
      refine ARun.seq ?_
      refine ARun.region ?_
      refine y_op rfl (q_move rfl) ?_
      refine y_op rfl (q_call rfl rfl (pc_nat_at a 0)) ?_
      refine y_op rfl (q_move rfl) ?_
      refine y_op rfl (q_call rfl rfl (pc_nat_at a 1)) ?_
      refine y_op rfl (q_shl rfl rfl (by omega) (nshl_u64 (s := 32) rfl (by omega) (by omega))) ?_
      refine y_op rfl (q_orR rfl rfl (nor_add (c := dig a 0) (x := dig a 1) (s := 32) (by omega) (by omega))) ?_
      refine y_op rfl (q_assign rfl) ?_
      refine y_op rfl (q_assign rfl) ?_
      refine AOps.nil ?_
      -- RET results [(2,), (3,)]
      refine ARun.ret ?_
      refine ⟨_, _, _, .tmp rfl (.tmp rfl .nil), .cons (.same _) (.cons (.same _) .nil), rfl, ?_⟩
      unfold toU; rw [h, cond_true, if_pos (by omega), val_lim]
      simp only
      rw [two_digs (by omega)]; rfl
/-- What ToInt hands back. -/
def toI (d : Bool × List Nat) : Int × Int := bif okI d then (if -9223372036854775808 ≤ valI d ∧ valI d ≤ 9223372036854775807 then (valI d, 0) else (0, 3)) else (0, 1)
theorem ln2 {n : Nat} : (lim n).length ≤ 2 ↔ n < 18446744073709551616 := by rw [ln_le_iff, B_two]
theorem wrap_neg64 {m : Nat} (h0 : 0 < m) (h : m < 18446744073709551616) : IntKind.u64.wrap (0 - (m : Int)) = ((18446744073709551616 - m : Nat) : Int) := by
  rw [IntKind.wrap_u64]; omega
theorem wrap_back64 {z : Int} (h0 : z < 0) (h : z.natAbs ≤ 9223372036854775808) : IntKind.i64.wrap ((18446744073709551616 - z.natAbs : Nat) : Int) = z := by
  rw [IntKind.wrap_i64]; omega
theorem pc_w_ToInt (d : Bool × List Nat) (hd : U32 d.2) : PC C n_whole_ToInt [intA d.1 d.2] (fun o => o = .ret (.tup [.int .i64 (toI d).1, .int .i64 (toI d).2])) := by
  refine PC.run fn_whole_ToInt en_whole_ToInt rfl nt_whole_ToInt rfl (rs := [.tmp 2, .tmp 3]) (by rw [rs_whole_ToInt]) (by simp only [List.length_cons, List.length_nil, Nat.reduceAdd, Nat.reduceSub, List.replicate_succ, List.replicate_zero, List.cons_append, List.nil_append]; exact rfl) ?_
  refine ARun.seq ?_
  refine ARun.region ?_
  refine y_op rfl (q_boxF rfl rfl rfl rfl) ?_
  refine y_op rfl (q_assign rfl) ?_
  refine y_op rfl (q_assign rfl) ?_
  refine AOps.nil ?_
  refine ARun.seq ?_
  refine ARun.seq ?_
  refine ARun.region ?_
  refine y_op rfl (q_loadAgg rfl rfl rfl rfl rfl) ?_
  refine y_op rfl (q_call rfl rfl (pc_w_Valid d)) ?_
  refine y_op rfl (q_not rfl) ?_
  refine AOps.nil ?_
  -- COND on ('t', 8)
  refine ARun.cond rfl (fun h => ?_) (fun h => ?_)
  · skip
    have h : okI d = false := by simpa using h
    refine ARun.seq ?_
    refine ARun.region ?_
    refine y_op rfl (q_assign rfl) ?_
    refine y_op rfl (q_assign rfl) ?_
    refine AOps.nil ?_
    -- RET results [(2,), (3,)]
    refine ARun.ret ?_
    refine ⟨_, _, _, .tmp rfl (.tmp rfl .nil), .cons (.same _) (.cons (.same _) .nil), rfl, ?_⟩
    unfold toI; rw [h]; rfl
  · skip
    have h : okI d = true := by simpa using h
    obtain ⟨z, rfl, fz⟩ := okI_int hd h
    have hT : toI (decide (z < 0), lim z.natAbs) = if -9223372036854775808 ≤ z ∧ z ≤ 9223372036854775807 then (z, 0) else (0, 3) := by
      unfold toI; rw [h, valI_int]; rfl
    rw [hT]
    have hU : toU (lim z.natAbs) = if z.natAbs < 18446744073709551616 then (z.natAbs, 0) else (0, 3) := by
      unfold toU; rw [okB_lim fz]; simp only [cond_true, val_lim]
      by_cases h2 : z.natAbs < 18446744073709551616
      · rw [if_pos h2, if_pos (ln2.2 h2)]
      · rw [if_neg h2, if_neg (fun h => h2 (ln2.1 h))]
    have hc := pc_nat_ToUint (lim z.natAbs) (U32_lim _)
    rw [hU] at hc
    by_cases h2 : z.natAbs < 18446744073709551616
    · skip
      rw [if_pos h2] at hc
      refine ARun.skip ?_
      refine ARun.seq ?_
      refine ARun.region ?_
      refine y_op rfl (q_fldS rfl rfl rfl (by decide)) ?_
      refine y_op rfl (q_load rfl rfl rfl rfl) ?_
      refine y_op rfl (q_call rfl rfl (hc)) ?_
      refine y_op rfl (q_move rfl) ?_
      refine y_op rfl (q_extract rfl rfl) ?_
      refine y_op rfl (q_extract rfl rfl) ?_
      refine y_op rfl (q_assign rfl) ?_
      refine y_op rfl (q_assign rfl) ?_
      refine AOps.nil ?_
      refine ARun.seq ?_
      refine ARun.block ?_
      refine ARun.seq ?_
      refine ARun.region ?_
      refine y_op rfl (q_move rfl) ?_
      refine y_op rfl (q_int rfl rfl rfl) ?_
      refine y_op rfl (q_move rfl) ?_
      -- guard: slot 18
      refine y_op rfl (q_move rfl) ?_
      refine y_op rfl (q_int rfl rfl rfl) ?_
      refine y_op rfl (q_pick rfl rfl rfl rfl) ?_
      refine y_op rfl (q_move rfl) ?_
      -- guard: slot 22
      refine AOps.bool 22 rfl (fun h3 => ?_) (fun h3 => ?_)
      · skip
        have h3 := of_decide_eq_true h3
        refine y_skip rfl ?_
        refine y_skip rfl ?_
        refine y_skip rfl ?_
        refine y_skip rfl ?_
        refine y_skip rfl ?_
        refine y_skip rfl ?_
        refine y_skip rfl ?_
        refine y_op rfl (q_pick rfl rfl rfl rfl) ?_
        refine y_op rfl (q_assign rfl) ?_
        refine AOps.nil ?_
        -- COND on ('t', 15)
        refine ARun.condT rfl ?_
        refine ARun.seq ?_
        refine ARun.region ?_
        refine y_op rfl (q_assign rfl) ?_
        refine y_op rfl (q_assign rfl) ?_
        refine AOps.nil ?_
        -- RET results [(2,), (3,)]
        refine ARun.ret ?_
        refine ⟨_, _, _, .tmp rfl (.tmp rfl .nil), .cons (.same _) (.cons (.same _) .nil), rfl, ?_⟩
        rw [if_neg (by omega)]; rfl
      · skip
        have h3 := of_decide_eq_false h3
        refine y_op rfl (q_move rfl) ?_
        refine y_op rfl (q_int rfl rfl rfl) ?_
        refine y_op rfl (q_move rfl) ?_
        -- guard: slot 25
        refine AOps.bool 25 rfl (fun h4 => ?_) (fun h4 => ?_)
        · skip
          have h4 : z.natAbs = 9223372036854775808 := by
            have : ((z.natAbs : Nat) : Int) = 9223372036854775808 := by simpa using h4
            omega
          refine y_op rfl (q_fldS rfl rfl rfl (by decide)) ?_
          refine y_op rfl (q_load rfl rfl rfl rfl) ?_
          refine y_op rfl (q_not rfl) ?_
          refine y_op rfl (q_pick rfl rfl rfl rfl) ?_
          refine y_op rfl (q_pick rfl rfl rfl rfl) ?_
          refine y_op rfl (q_assign rfl) ?_
          refine AOps.nil ?_
          -- COND on ('t', 15)
          refine ARun.cond rfl (fun h5 => ?_) (fun h5 => ?_)
          · skip
            have h5 : ¬ z < 0 := by simpa using h5
            refine ARun.seq ?_
            refine ARun.region ?_
            refine y_op rfl (q_assign rfl) ?_
            refine y_op rfl (q_assign rfl) ?_
            refine AOps.nil ?_
            -- RET results [(2,), (3,)]
            refine ARun.ret ?_
            refine ⟨_, _, _, .tmp rfl (.tmp rfl .nil), .cons (.same _) (.cons (.same _) .nil), rfl, ?_⟩
            rw [if_neg (by omega)]; rfl
          · skip
            have h5 : z < 0 := by simpa using h5
            refine ARun.seq ?_
            refine ARun.region ?_
            refine y_op rfl (q_fldS rfl rfl rfl (by decide)) ?_
            refine y_op rfl (q_load rfl rfl rfl rfl) ?_
            refine y_op rfl (q_assign rfl) ?_
            refine AOps.nil ?_
            -- COND on ('t', 31)
            refine ARun.cond rfl (fun h6 => ?_) (fun h6 => ?_)
            · skip
              refine ARun.seq ?_
              refine ARun.region ?_
              refine y_op rfl (q_move rfl) ?_
              refine y_op rfl (q_neg rfl (wrap_neg64 (m := z.natAbs) (by omega) (by omega))) ?_
              refine y_op rfl (q_conv rfl rfl rfl (wrap_back64 (z := z) (by omega) (by omega))) ?_
              refine y_op rfl (q_assign rfl) ?_
              refine y_op rfl (q_assign rfl) ?_
              refine AOps.nil ?_
              -- RET results [(2,), (3,)]
              refine ARun.ret ?_
              refine ⟨_, _, _, .tmp rfl (.tmp rfl .nil), .cons (.same _) (.cons (.same _) .nil), rfl, ?_⟩
              rw [if_pos (by omega)]; rfl
            · skip
              have h6 := of_decide_eq_false h6
              omega
        · skip
          have h4 : z.natAbs ≠ 9223372036854775808 := by
            intro e
            rw [e] at h4
            simp at h4
          refine y_skip rfl ?_
          refine y_skip rfl ?_
          refine y_skip rfl ?_
          refine y_op rfl (q_pick rfl rfl rfl rfl) ?_
          refine y_op rfl (q_pick rfl rfl rfl rfl) ?_
          refine y_op rfl (q_assign rfl) ?_
          refine AOps.nil ?_
          -- COND on ('t', 15)
          refine ARun.condF rfl ?_
          refine ARun.seq ?_
          refine ARun.region ?_
          refine y_op rfl (q_fldS rfl rfl rfl (by decide)) ?_
          refine y_op rfl (q_load rfl rfl rfl rfl) ?_
          refine y_op rfl (q_assign rfl) ?_
          refine AOps.nil ?_
          -- COND on ('t', 31)
          refine ARun.cond rfl (fun h5 => ?_) (fun h5 => ?_)
          · skip
            have h5 := of_decide_eq_true h5
            refine ARun.seq ?_
            refine ARun.region ?_
            refine y_op rfl (q_move rfl) ?_
            refine y_op rfl (q_neg rfl (wrap_neg64 (m := z.natAbs) (by omega) (by omega))) ?_
            refine y_op rfl (q_conv rfl rfl rfl (wrap_back64 (z := z) (by omega) (by omega))) ?_
            refine y_op rfl (q_assign rfl) ?_
            refine y_op rfl (q_assign rfl) ?_
            refine AOps.nil ?_
            -- RET results [(2,), (3,)]
            refine ARun.ret ?_
            refine ⟨_, _, _, .tmp rfl (.tmp rfl .nil), .cons (.same _) (.cons (.same _) .nil), rfl, ?_⟩
            rw [if_pos (by omega)]; rfl
          · skip
            have h5 := of_decide_eq_false h5
            refine ARun.skip ?_
            refine ARun.inBlock ?_
            refine ARun.seq ?_
            refine ARun.region ?_
            refine y_op rfl (q_move rfl) ?_
            refine y_op rfl (q_conv rfl rfl rfl (nconv_i64 (by omega))) ?_
            refine y_op rfl (q_assign rfl) ?_
            refine y_op rfl (q_assign rfl) ?_
            refine AOps.nil ?_
            -- RET results [(2,), (3,)]
            refine ARun.ret ?_
            refine ⟨_, _, _, .tmp rfl (.tmp rfl .nil), .cons (.same _) (.cons (.same _) .nil), rfl, ?_⟩
            rw [if_pos (by omega)]
            show Out.ret (.tup [.int .i64 ((z.natAbs : Nat) : Int), .int .i64 0]) = _
            rw [show ((z.natAbs : Nat) : Int) = z by omega]
    · skip
      rw [if_neg h2] at hc
      refine ARun.skip ?_
      refine ARun.seq ?_
      refine ARun.region ?_
      refine y_op rfl (q_fldS rfl rfl rfl (by decide)) ?_
      refine y_op rfl (q_load rfl rfl rfl rfl) ?_
      refine y_op rfl (q_call rfl rfl (hc)) ?_
      refine y_op rfl (q_move rfl) ?_
      refine y_op rfl (q_extract rfl rfl) ?_
      refine y_op rfl (q_extract rfl rfl) ?_
      refine y_op rfl (q_assign rfl) ?_
      refine y_op rfl (q_assign rfl) ?_
      refine AOps.nil ?_
      refine ARun.seq ?_
      refine ARun.block ?_
      refine ARun.seq ?_
      refine ARun.region ?_
      refine y_op rfl (q_move rfl) ?_
      refine y_op rfl (q_int rfl rfl rfl) ?_
      refine y_op rfl (q_move rfl) ?_
      -- guard: slot 18
      refine y_skip rfl ?_
      refine y_skip rfl ?_
      refine y_op rfl (q_pick rfl rfl rfl rfl) ?_
      refine y_op rfl (q_move rfl) ?_
      refine y_skip rfl ?_
      refine y_skip rfl ?_
      refine y_skip rfl ?_
      refine y_skip rfl ?_
      refine y_skip rfl ?_
      refine y_skip rfl ?_
      refine y_skip rfl ?_
      refine y_op rfl (q_pick rfl rfl rfl rfl) ?_
      refine y_op rfl (q_assign rfl) ?_
      refine AOps.nil ?_
      -- COND on ('t', 15)
      refine ARun.condT rfl ?_
      refine ARun.seq ?_
      refine ARun.region ?_
      refine y_op rfl (q_assign rfl) ?_
      refine y_op rfl (q_assign rfl) ?_
      refine AOps.nil ?_
      -- RET results [(2,), (3,)]
      refine ARun.ret ?_
      refine ⟨_, _, _, .tmp rfl (.tmp rfl .nil), .cons (.same _) (.cons (.same _) .nil), rfl, ?_⟩
      rw [if_neg (by omega)]; rfl
end Go.V


set_option maxHeartbeats 4000000
set_option synthInstance.maxSize 100000
set_option synthInstance.maxHeartbeats 2000000
namespace Go.V
open Go.RowKit Go.Proofs

/-- What Sign and Cmp hand back. -/
def signR (d : Bool × List Nat) : Int × Int := bif okI d then ((valI d).sign, 0) else (0, 1)
def cmpR (d1 d2 : Bool × List Nat) : Int × Int := bif [d1, d2].all okI then (cmpZ (valI d1) (valI d2), 0) else (0, 1)
theorem pc_w_Sign (d : Bool × List Nat) (hd : U32 d.2) : PC C n_whole_Sign [intA d.1 d.2] (fun o => o = .ret (.tup [.int .i64 (signR d).1, .int .i64 (signR d).2])) := by
  refine PC.run fn_whole_Sign en_whole_Sign rfl nt_whole_Sign rfl (rs := [.tmp 2, .tmp 3]) (by rw [rs_whole_Sign]) (by simp only [List.length_cons, List.length_nil, Nat.reduceAdd, Nat.reduceSub, List.replicate_succ, List.replicate_zero, List.cons_append, List.nil_append]; exact rfl) ?_
  refine ARun.seq ?_
  refine ARun.region ?_
  refine y_op rfl (q_boxF rfl rfl rfl rfl) ?_
  refine y_op rfl (q_assign rfl) ?_
  refine y_op rfl (q_assign rfl) ?_
  refine AOps.nil ?_
  refine ARun.seq ?_
  refine ARun.seq ?_
  refine ARun.region ?_
  refine y_op rfl (q_loadAgg rfl rfl rfl rfl rfl) ?_
  refine y_op rfl (q_call rfl rfl (pc_w_Valid d)) ?_
  refine y_op rfl (q_not rfl) ?_
  refine AOps.nil ?_
  -- COND on ('t', 6)
  refine ARun.cond rfl (fun h => ?_) (fun h => ?_)
  · skip
    have h : okI d = false := by simpa using h
    refine ARun.seq ?_
    refine ARun.region ?_
    refine y_op rfl (q_assign rfl) ?_
    refine y_op rfl (q_assign rfl) ?_
    refine AOps.nil ?_
    -- RET results [(2,), (3,)]
    refine ARun.ret ?_
    refine ⟨_, _, _, .tmp rfl (.tmp rfl .nil), .cons (.same _) (.cons (.same _) .nil), rfl, ?_⟩
    unfold signR; rw [h]; rfl
  · skip
    have h : okI d = true := by simpa using h
    obtain ⟨z, rfl, fz⟩ := okI_int hd h
    refine ARun.skip ?_
    refine ARun.seq ?_
    refine ARun.region ?_
    refine y_op rfl (q_loadAgg rfl rfl rfl rfl rfl) ?_
    refine y_op rfl (q_call rfl rfl (pc_w_sign z)) ?_
    refine y_op rfl (q_assign rfl) ?_
    refine y_op rfl (q_assign rfl) ?_
    refine AOps.nil ?_
    -- RET results [(2,), (3,)]
    refine ARun.ret ?_
    refine ⟨_, _, _, .tmp rfl (.tmp rfl .nil), .cons (.same _) (.cons (.same _) .nil), rfl, ?_⟩
    unfold signR; rw [h, valI_int]; rfl
theorem pc_w_Cmp (d1 d2 : Bool × List Nat) (h1 : U32 d1.2) (h2 : U32 d2.2) : PC C n_whole_Cmp [intA d1.1 d1.2, intA d2.1 d2.2] (fun o => o = .ret (.tup [.int .i64 (cmpR d1 d2).1, .int .i64 (cmpR d1 d2).2])) := by
  refine PC.run fn_whole_Cmp en_whole_Cmp rfl nt_whole_Cmp rfl (rs := [.tmp 4, .tmp 5]) (by rw [rs_whole_Cmp]) (by simp only [List.length_cons, List.length_nil, Nat.reduceAdd, Nat.reduceSub, List.replicate_succ, List.replicate_zero, List.cons_append, List.nil_append]; exact rfl) ?_
  refine ARun.seq ?_
  refine ARun.region ?_
  refine y_op rfl (q_boxF rfl rfl rfl rfl) ?_
  refine y_op rfl (q_boxF rfl rfl rfl rfl) ?_
  refine y_op rfl (q_assign rfl) ?_
  refine y_op rfl (q_assign rfl) ?_
  refine AOps.nil ?_
  refine ARun.seq ?_
  refine ARun.seq ?_
  refine ARun.region ?_
  refine y_op rfl (q_loadAgg rfl rfl rfl rfl rfl) ?_
  refine y_op rfl (q_call rfl rfl (pc_w_Valid d1)) ?_
  refine y_op rfl (q_not rfl) ?_
  refine y_op rfl (q_move rfl) ?_
  -- guard: slot 9
  refine AOps.bool 9 rfl (fun h => ?_) (fun h => ?_)
  · skip
    have h : okI d1 = false := by simpa using h
    refine y_skip rfl ?_
    refine y_skip rfl ?_
    refine y_skip rfl ?_
    refine y_op rfl (q_pick rfl rfl rfl rfl) ?_
    refine AOps.nil ?_
    -- COND on ('t', 13)
    refine ARun.condT rfl ?_
    refine ARun.seq ?_
    refine ARun.region ?_
    refine y_op rfl (q_assign rfl) ?_
    refine y_op rfl (q_assign rfl) ?_
    refine AOps.nil ?_
    -- RET results [(4,), (5,)]
    refine ARun.ret ?_
    refine ⟨_, _, _, .tmp rfl (.tmp rfl .nil), .cons (.same _) (.cons (.same _) .nil), rfl, ?_⟩
    unfold cmpR; simp only [List.all_cons, List.all_nil, Bool.and_true, h, Bool.false_and]; rfl
  · skip
    have h : okI d1 = true := by simpa using h
    refine y_op rfl (q_loadAgg rfl rfl rfl rfl rfl) ?_
    refine y_op rfl (q_call rfl rfl (pc_w_Valid d2)) ?_
    refine y_op rfl (q_not rfl) ?_
    refine y_op rfl (q_pick rfl rfl rfl rfl) ?_
    refine AOps.nil ?_
    -- COND on ('t', 13)
    refine ARun.cond rfl (fun h3 => ?_) (fun h3 => ?_)
    · skip
      have h3 : okI d2 = false := by simpa using h3
      refine ARun.seq ?_
      refine ARun.region ?_
      refine y_op rfl (q_assign rfl) ?_
      refine y_op rfl (q_assign rfl) ?_
      refine AOps.nil ?_
      -- RET results [(4,), (5,)]
      refine ARun.ret ?_
      refine ⟨_, _, _, .tmp rfl (.tmp rfl .nil), .cons (.same _) (.cons (.same _) .nil), rfl, ?_⟩
      unfold cmpR; simp only [List.all_cons, List.all_nil, Bool.and_true, h3, Bool.and_false]; rfl
    · skip
      have h3 : okI d2 = true := by simpa using h3
      have ho : [d1, d2].all okI = true := by simp only [List.all_cons, List.all_nil, Bool.and_true, h, h3]
      obtain ⟨x, y, rfl, f1, rfl, f2⟩ := okI2 h1 h2 ho
      refine ARun.skip ?_
      refine ARun.seq ?_
      refine ARun.region ?_
      refine y_op rfl (q_loadAgg rfl rfl rfl rfl rfl) ?_
      refine y_op rfl (q_loadAgg rfl rfl rfl rfl rfl) ?_
      refine y_op rfl (q_call rfl rfl (pc_w_cmp x y f1 f2)) ?_
      refine y_op rfl (q_assign rfl) ?_
      refine y_op rfl (q_assign rfl) ?_
      refine AOps.nil ?_
      -- RET results [(4,), (5,)]
      refine ARun.ret ?_
      refine ⟨_, _, _, .tmp rfl (.tmp rfl .nil), .cons (.same _) (.cons (.same _) .nil), rfl, ?_⟩
      unfold cmpR; rw [ho, valI_int, valI_int]; rfl
theorem pc_s_Sgn (z : Int) : PC C n_R02_Sgn [intD z] (fun o => o = .ret (.int .i64 z.sign)) := by
  refine PC.run fn_R02_Sgn en_R02_Sgn rfl nt_R02_Sgn rfl (rs := [.tmp 2]) (by rw [rs_R02_Sgn]) (by simp only [List.length_cons, List.length_nil, Nat.reduceAdd, Nat.reduceSub, List.replicate_succ, List.replicate_zero, List.cons_append, List.nil_append]; exact rfl) ?_
  refine ARun.seq ?_
  refine ARun.region ?_
  refine y_op rfl (q_boxF rfl rfl rfl rfl) ?_
  refine y_op rfl (q_assign rfl) ?_
  refine AOps.nil ?_
  refine ARun.seq ?_
  refine ARun.seq ?_
  refine ARun.region ?_
  refine y_op rfl (q_fldS rfl rfl rfl (by decide)) ?_
  refine y_op rfl (q_load rfl rfl rfl rfl) ?_
  refine AOps.nil ?_
  -- COND on ('t', 4)
  refine ARun.cond rfl (fun h => ?_) (fun h => ?_)
  · skip
    have h := of_decide_eq_true h
    refine ARun.seq ?_
    refine ARun.region ?_
    refine y_op rfl (q_assign rfl) ?_
    refine AOps.nil ?_
    -- RET results [(2,)]
    refine ARun.ret ?_
    refine ⟨_, _, _, .tmp rfl .nil, .cons (.same _) .nil, rfl, ?_⟩
    rw [Int.sign_eq_neg_one_of_neg h]; rfl
  · skip
    have h := of_decide_eq_false h
    refine ARun.skip ?_
    refine ARun.seq ?_
    refine ARun.region ?_
    refine y_op rfl (q_fldS rfl rfl rfl (by decide)) ?_
    refine y_op rfl (q_load rfl rfl rfl rfl) ?_
    refine y_op rfl (q_lenSl rfl rfl) ?_
    refine y_op rfl (q_minR rfl rfl (show _ = z.sign by have h0 := (@ln_pos z.natAbs); rcases Nat.eq_zero_or_pos z.natAbs with e | e; rw [e, ln_zero, show z = 0 by omega]; rfl; have := h0.2 (by omega); rw [Int.sign_eq_one_of_pos (by omega)]; omega)) ?_
    refine y_op rfl (q_assign rfl) ?_
    refine AOps.nil ?_
    -- RET results [(2,)]
    refine ARun.ret ?_
    refine ⟨_, _, _, .tmp rfl .nil, .cons (.same _) .nil, rfl, ?_⟩
    rfl
theorem pc_s_Sign (d : Bool × List Nat) (hd : U32 d.2) : PC C n_R02_Sign [intA d.1 d.2] (fun o => o = .ret (.tup [.int .i64 (signR d).1, .int .i64 (signR d).2])) := by
  refine PC.run fn_R02_Sign en_R02_Sign rfl nt_R02_Sign rfl (rs := [.tmp 2, .tmp 3]) (by rw [rs_R02_Sign]) (by simp only [List.length_cons, List.length_nil, Nat.reduceAdd, Nat.reduceSub, List.replicate_succ, List.replicate_zero, List.cons_append, List.nil_append]; exact rfl) ?_
  refine ARun.seq ?_
  refine ARun.region ?_
  refine y_op rfl (q_boxF rfl rfl rfl rfl) ?_
  refine y_op rfl (q_assign rfl) ?_
  refine y_op rfl (q_assign rfl) ?_
  refine AOps.nil ?_
  refine ARun.seq ?_
  refine ARun.seq ?_
  refine ARun.region ?_
  refine y_op rfl (q_loadAgg rfl rfl rfl rfl rfl) ?_
  refine y_op rfl (q_call rfl rfl (pc_s_Valid d)) ?_
  refine y_op rfl (q_not rfl) ?_
  refine AOps.nil ?_
  -- COND on ('t', 6)
  refine ARun.cond rfl (fun h => ?_) (fun h => ?_)
  · skip
    have h : okI d = false := by simpa using h
    refine ARun.seq ?_
    refine ARun.region ?_
    refine y_op rfl (q_assign rfl) ?_
    refine y_op rfl (q_assign rfl) ?_
    refine AOps.nil ?_
    -- RET results [(2,), (3,)]
    refine ARun.ret ?_
    refine ⟨_, _, _, .tmp rfl (.tmp rfl .nil), .cons (.same _) (.cons (.same _) .nil), rfl, ?_⟩
    unfold signR; rw [h]; rfl
  · skip
    have h : okI d = true := by simpa using h
    obtain ⟨z, rfl, fz⟩ := okI_int hd h
    refine ARun.skip ?_
    refine ARun.seq ?_
    refine ARun.region ?_
    refine y_op rfl (q_loadAgg rfl rfl rfl rfl rfl) ?_
    refine y_op rfl (q_call rfl rfl (pc_s_Sgn z)) ?_
    refine y_op rfl (q_assign rfl) ?_
    refine y_op rfl (q_assign rfl) ?_
    refine AOps.nil ?_
    -- RET results [(2,), (3,)]
    refine ARun.ret ?_
    refine ⟨_, _, _, .tmp rfl (.tmp rfl .nil), .cons (.same _) (.cons (.same _) .nil), rfl, ?_⟩
    unfold signR; rw [h, valI_int]; rfl
theorem sign_sub (x y : Int) : (x - y).sign = cmpZ x y := by
  unfold cmpZ
  by_cases h : x < y
  · rw [if_pos h, Int.sign_eq_neg_one_of_neg (by omega)]
  · rw [if_neg h]
    by_cases h2 : x = y
    · rw [if_pos h2, show x - y = 0 by omega]; rfl
    · rw [if_neg h2, Int.sign_eq_one_of_pos (by omega)]
theorem pc_s_Cmp (d1 d2 : Bool × List Nat) (h1 : U32 d1.2) (h2 : U32 d2.2) : PC C n_R02_Cmp [intA d1.1 d1.2, intA d2.1 d2.2] (fun o => o = .ret (.tup [.int .i64 (cmpR d1 d2).1, .int .i64 (cmpR d1 d2).2])) := by
  refine PC.run fn_R02_Cmp en_R02_Cmp rfl nt_R02_Cmp rfl (rs := [.tmp 4, .tmp 5]) (by rw [rs_R02_Cmp]) (by simp only [List.length_cons, List.length_nil, Nat.reduceAdd, Nat.reduceSub, List.replicate_succ, List.replicate_zero, List.cons_append, List.nil_append]; exact rfl) ?_
  refine ARun.seq ?_
  refine ARun.region ?_
  refine y_op rfl (q_boxF rfl rfl rfl rfl) ?_
  refine y_op rfl (q_boxF rfl rfl rfl rfl) ?_
  refine y_op rfl (q_assign rfl) ?_
  refine y_op rfl (q_assign rfl) ?_
  refine AOps.nil ?_
  refine ARun.seq ?_
  refine ARun.seq ?_
  refine ARun.region ?_
  refine y_op rfl (q_loadAgg rfl rfl rfl rfl rfl) ?_
  refine y_op rfl (q_call rfl rfl (pc_s_Valid d1)) ?_
  refine y_op rfl (q_not rfl) ?_
  refine y_op rfl (q_move rfl) ?_
  -- guard: slot 9
  refine AOps.bool 9 rfl (fun h => ?_) (fun h => ?_)
  · skip
    have h : okI d1 = false := by simpa using h
    refine y_skip rfl ?_
    refine y_skip rfl ?_
    refine y_skip rfl ?_
    refine y_op rfl (q_pick rfl rfl rfl rfl) ?_
    refine AOps.nil ?_
    -- COND on ('t', 13)
    refine ARun.condT rfl ?_
    refine ARun.seq ?_
    refine ARun.region ?_
    refine y_op rfl (q_assign rfl) ?_
    refine y_op rfl (q_assign rfl) ?_
    refine AOps.nil ?_
    -- RET results [(4,), (5,)]
    refine ARun.ret ?_
    refine ⟨_, _, _, .tmp rfl (.tmp rfl .nil), .cons (.same _) (.cons (.same _) .nil), rfl, ?_⟩
    unfold cmpR; simp only [List.all_cons, List.all_nil, Bool.and_true, h, Bool.false_and]; rfl
  · skip
    have h : okI d1 = true := by simpa using h
    refine y_op rfl (q_loadAgg rfl rfl rfl rfl rfl) ?_
    refine y_op rfl (q_call rfl rfl (pc_s_Valid d2)) ?_
    refine y_op rfl (q_not rfl) ?_
    refine y_op rfl (q_pick rfl rfl rfl rfl) ?_
    refine AOps.nil ?_
    -- COND on ('t', 13)
    refine ARun.cond rfl (fun h3 => ?_) (fun h3 => ?_)
    · skip
      have h3 : okI d2 = false := by simpa using h3
      refine ARun.seq ?_
      refine ARun.region ?_
      refine y_op rfl (q_assign rfl) ?_
      refine y_op rfl (q_assign rfl) ?_
      refine AOps.nil ?_
      -- RET results [(4,), (5,)]
      refine ARun.ret ?_
      refine ⟨_, _, _, .tmp rfl (.tmp rfl .nil), .cons (.same _) (.cons (.same _) .nil), rfl, ?_⟩
      unfold cmpR; simp only [List.all_cons, List.all_nil, Bool.and_true, h3, Bool.and_false]; rfl
    · skip
      have h3 : okI d2 = true := by simpa using h3
      have ho : [d1, d2].all okI = true := by simp only [List.all_cons, List.all_nil, Bool.and_true, h, h3]
      obtain ⟨x, y, rfl, f1, rfl, f2⟩ := okI2 h1 h2 ho
      refine ARun.skip ?_
      refine ARun.seq ?_
      refine ARun.region ?_
      refine y_op rfl (q_loadAgg rfl rfl rfl rfl rfl) ?_
      refine y_op rfl (q_loadAgg rfl rfl rfl rfl rfl) ?_
      refine y_op rfl (q_call rfl rfl (pc_s_Minus x y (by unfold fitZ at f1; omega) (by unfold fitZ at f2; omega))) ?_
      refine y_op rfl (q_call rfl rfl (pc_s_Sgn (x - y))) ?_
      refine y_op rfl (q_assign rfl) ?_
      refine y_op rfl (q_assign rfl) ?_
      refine AOps.nil ?_
      -- RET results [(4,), (5,)]
      refine ARun.ret ?_
      refine ⟨_, _, _, .tmp rfl (.tmp rfl .nil), .cons (.same _) (.cons (.same _) .nil), rfl, ?_⟩
      unfold cmpR; rw [ho, valI_int, valI_int, sign_sub]; rfl
theorem quo2_u32 {x : Nat} (h : x < 4294967296) : IntKind.u32.wrap ((x : Int).tdiv 2) = ((x / 2 : Nat) : Int) := by
  rw [Int.tdiv_eq_ediv_of_nonneg (by omega), IntKind.wrap_u32]; omega
theorem bl_half {x : Nat} (h : 0 < x) : bl x = 1 + bl (x / 2) := by
  by_cases h1 : x = 1
  · subst h1
    have h2 : bl 1 ≤ 1 := bl_le.2 (by decide)
    have h3 : 0 < bl 1 := bl_lt.2 (by decide)
    rw [show 1 / 2 = 0 from rfl, bl_zero]; omega
  · have hs := bl_div (n := x) (k := 1) (by omega)
    rw [Nat.pow_one] at hs
    exact hs
theorem pc_r_Bits (a : Nat) (ha : (lim a).length ≤ 1099511627776) : PC C n_R01_Bits [numD a] (fun o => o = .ret (.int .i64 ((bl a : Nat) : Int))) := by
  refine PC.run fn_R01_Bits en_R01_Bits rfl nt_R01_Bits rfl (rs := [.tmp 2]) (by rw [rs_R01_Bits]) (by simp only [List.length_cons, List.length_nil, Nat.reduceAdd, Nat.reduceSub, List.replicate_succ, List.replicate_zero, List.cons_append, List.nil_append]; exact rfl) ?_
  refine ARun.seq ?_
  refine ARun.region ?_
  refine y_op rfl (q_assign rfl) ?_
  refine AOps.nil ?_
  refine ARun.seq ?_
  refine ARun.region ?_
  refine y_op rfl (q_move rfl) ?_
  refine y_op rfl (q_lenSl rfl rfl) ?_
  refine y_op rfl (q_assign rfl) ?_
  refine AOps.nil ?_
  refine ARun.seq ?_
  refine ARun.seq ?_
  refine ARun.region ?_
  refine y_op rfl (q_move rfl) ?_
  refine y_op rfl (q_int rfl rfl rfl) ?_
  refine AOps.nil ?_
  -- COND on ('t', 9)
  refine ARun.cond rfl (fun h => ?_) (fun h => ?_)
  · skip
    have h : (lim a).length = 0 := by simpa using h
    refine ARun.seq ?_
    refine ARun.region ?_
    refine y_op rfl (q_assign rfl) ?_
    refine AOps.nil ?_
    -- RET results [(2,)]
    refine ARun.ret ?_
    refine ⟨_, _, _, .tmp rfl .nil, .cons (.same _) .nil, rfl, ?_⟩
    have h0 : a = 0 := by apply Classical.byContradiction; intro hn; have := ln_pos.2 hn; omega
    rw [h0, bl_zero]; rfl
  · skip
    have h : 0 < (lim a).length := by
      rcases Nat.eq_zero_or_pos (lim a).length with e | e
      · rw [e] at h; simp at h
      · exact e
    have htop := bl_top h
    have hd := dig_lt a ((lim a).length - 1)
    have hsub : IntKind.i64.wrap (((lim a).length : Int) - 1) = (((lim a).length - 1 : Nat) : Int) := by rw [IntWalk.i64_in _ (by omega)]; omega
    refine ARun.skip ?_
    refine ARun.seq ?_
    refine ARun.region ?_
    refine y_op rfl (q_move rfl) ?_
    refine y_op rfl (q_sub (r := (((lim a).length - 1 : Nat) : Int)) rfl rfl hsub) ?_
    refine y_op rfl (q_mul rfl rfl (nmul_i64 (m := 32) (by omega))) ?_
    refine y_op rfl (q_assign rfl) ?_
    refine AOps.nil ?_
    refine ARun.seq ?_
    refine ARun.seq ?_
    refine ARun.region ?_
    refine y_op rfl (q_move rfl) ?_
    refine y_op rfl (q_move rfl) ?_
    refine y_op rfl (q_sub (r := (((lim a).length - 1 : Nat) : Int)) rfl rfl hsub) ?_
    refine y_op rfl (q_idxSl (i := (((lim a).length - 1 : Nat) : Int)) rfl rfl rfl rfl (by omega) (by omega) (nts_ne (by omega)) (drop_nat rfl)) ?_
    refine y_op rfl (q_load rfl rfl rfl (lim_load (i := (lim a).length - 1) (by omega))) ?_
    refine y_op rfl (q_assign rfl) ?_
    refine AOps.nil ?_
    refine ARun.block ?_
    -- LOOP writes [4, 5, 18, 19, 20, 21, 22, 23]
    refine ARun.loopI (S := Nat × Nat) (fun σ : Nat × Nat => [(18, .any), (19, .any), (20, .any), (21, .any), (22, .any), (23, .any), (4, .int .i64 (σ.1 : Int)), (5, .int .u32 (σ.2 : Int))]) (fun σ : Nat × Nat => []) (fun σ : Nat × Nat => σ.1 + bl σ.2 = bl a ∧ σ.2 < 4294967296) (fun σ : Nat × Nat => σ.2) ((32 * ((lim a).length - 1), dig a ((lim a).length - 1))) ?_ ?_ ?_ ?_
    · exact ⟨htop.symm, hd⟩
    · (repeat' first | exact envLe_nil | apply envLe_any | apply envLe_same)
    · rfl
    rintro ⟨b, x⟩ hinv ih
    dsimp only at hinv ih ⊢
    obtain ⟨hb, hx⟩ := hinv
    have hbl := bl_le_ln a
    clear hsub
    refine ARun.seq ?_
    refine ARun.seq ?_
    refine ARun.region ?_
    refine y_op rfl (q_move rfl) ?_
    refine y_op rfl (q_int rfl rfl rfl) ?_
    refine AOps.nil ?_
    -- COND on ('t', 19)
    refine ARun.ite rfl (fun h2 => ?_) (fun h2 => ?_)
    · skip
      have hx0 : 0 < x := by omega
      have hs := bl_half hx0
      refine ARun.skip ?_
      refine ARun.seq ?_
      refine ARun.block ?_
      refine ARun.region ?_
      refine y_op rfl (q_move rfl) ?_
      refine y_op rfl (q_add rfl rfl (nadd1_i64 (by omega))) ?_
      refine y_op rfl (q_assign rfl) ?_
      refine AOps.nil ?_
      refine ARun.inBlock ?_
      refine ARun.region ?_
      refine y_op rfl (q_move rfl) ?_
      refine y_op rfl (q_quo rfl rfl (by decide) (quo2_u32 hx)) ?_
      refine y_op rfl (q_assign rfl) ?_
      refine AOps.nil ?_
      -- LOOP's end
      refine ARun.again (ih ((b + 1, x / 2)) ?_ ?_) ?_ ?_
      · exact ⟨by dsimp only; omega, by dsimp only; omega⟩
      · exact Nat.div_lt_self hx0 (by decide)
      · (repeat' first | exact envLe_nil | apply envLe_any | apply envLe_same)
      · rfl
    · skip
      obtain rfl : x = 0 := by omega
      rw [bl_zero, Nat.add_zero] at hb
      refine ARun.exit rfl ?_
      refine ARun.seq ?_
      refine ARun.region ?_
      refine y_op rfl (q_move rfl) ?_
      refine y_op rfl (q_assign rfl) ?_
      refine AOps.nil ?_
      -- RET results [(2,)]
      refine ARun.ret ?_
      refine ⟨_, _, _, .tmp rfl .nil, .cons (.same _) .nil, rfl, ?_⟩
      rw [← hb]; rfl
end Go.V


set_option maxHeartbeats 4000000
set_option synthInstance.maxSize 100000
set_option synthInstance.maxHeartbeats 2000000
namespace Go.V
open Go.RowKit Go.Proofs

theorem shl32_i64 {n : Nat} (h : n * 4294967296 < 9223372036854775808) : IntKind.i64.wrap ((n : Int) * 2 ^ min (32 : Int).toNat IntKind.i64.bits) = ((n * 4294967296 : Nat) : Int) := by
  have : (2 : Int) ^ min (32 : Int).toNat IntKind.i64.bits = 4294967296 := by decide
  rw [this, IntWalk.i64_in _ (by omega)]; omega
theorem pc_s_ToInt (d : Bool × List Nat) (hd : U32 d.2) : PC C n_R02_ToInt [intA d.1 d.2] (fun o => o = .ret (.tup [.int .i64 (toI d).1, .int .i64 (toI d).2])) := by
  refine PC.run fn_R02_ToInt en_R02_ToInt rfl nt_R02_ToInt rfl (rs := [.tmp 2, .tmp 3]) (by rw [rs_R02_ToInt]) (by simp only [List.length_cons, List.length_nil, Nat.reduceAdd, Nat.reduceSub, List.replicate_succ, List.replicate_zero, List.cons_append, List.nil_append]; exact rfl) ?_
  refine ARun.seq ?_
  refine ARun.region ?_
  refine y_op rfl (q_boxF rfl rfl rfl rfl) ?_
  refine y_op rfl (q_assign rfl) ?_
  refine y_op rfl (q_assign rfl) ?_
  refine AOps.nil ?_
  refine ARun.seq ?_
  refine ARun.seq ?_
  refine ARun.region ?_
  refine y_op rfl (q_loadAgg rfl rfl rfl rfl rfl) ?_
  refine y_op rfl (q_call rfl rfl (pc_s_Valid d)) ?_
  refine y_op rfl (q_not rfl) ?_
  refine AOps.nil ?_
  -- COND on ('t', 8)
  refine ARun.cond rfl (fun h => ?_) (fun h => ?_)
  · skip
    have h : okI d = false := by simpa using h
    refine ARun.seq ?_
    refine ARun.region ?_
    refine y_op rfl (q_assign rfl) ?_
    refine y_op rfl (q_assign rfl) ?_
    refine AOps.nil ?_
    -- RET results [(2,), (3,)]
    refine ARun.ret ?_
    refine ⟨_, _, _, .tmp rfl (.tmp rfl .nil), .cons (.same _) (.cons (.same _) .nil), rfl, ?_⟩
    unfold toI; rw [h]; rfl
  · skip
    have h : okI d = true := by simpa using h
    obtain ⟨z, rfl, fz⟩ := okI_int hd h
    have hT : toI (decide (z < 0), lim z.natAbs) = if -9223372036854775808 ≤ z ∧ z ≤ 9223372036854775807 then (z, 0) else (0, 3) := by
      unfold toI; rw [h, valI_int]; rfl
    rw [hT]
    have hln : (lim z.natAbs).length ≤ 1024 := fz
    have hln2 : (decide (z < 0), lim z.natAbs).snd.length ≤ 1024 := fz
    refine ARun.skip ?_
    refine ARun.seq ?_
    refine ARun.seq ?_
    refine ARun.region ?_
    refine y_op rfl (q_fldS rfl rfl rfl (by decide)) ?_
    refine y_op rfl (q_load rfl rfl rfl rfl) ?_
    refine y_op rfl (q_call rfl rfl (pc_r_Bits z.natAbs (by omega))) ?_
    refine y_op rfl (q_int rfl rfl rfl) ?_
    refine AOps.nil ?_
    -- COND on ('t', 12)
    refine ARun.ite rfl (fun h2 => ?_) (fun h2 => ?_)
    · skip
      have h2 : 9223372036854775808 ≤ z.natAbs := by
        have := bl_lt.1 (show 63 < bl z.natAbs by omega)
        omega
      refine ARun.seq ?_
      refine ARun.seq ?_
      refine ARun.drawnP 2 (fun _ => False) mixC rfl rfl (by kernel_rfl) (fun _ _ h => h.elim) ?_
      refine .op rfl (q_loadAgg rfl rfl rfl rfl rfl) ?_
      refine .op rfl (q_call rfl rfl (pc_s_FromInt (-9223372036854775808) (by decide) (by decide))) ?_
      refine .nil (fun hG => ?_)
      refine y_op rfl (q_call rfl rfl (pc_s_Same z (-9223372036854775808))) ?_
      refine AOps.nil ?_
      -- COND on ('t', 15)
      refine ARun.ite rfl (fun h3 => ?_) (fun h3 => ?_)
      · skip
        refine ARun.seq ?_
        refine ARun.region ?_
        refine y_op rfl (q_assign rfl) ?_
        refine y_op rfl (q_assign rfl) ?_
        refine AOps.nil ?_
        -- RET results [(2,), (3,)]
        refine ARun.ret ?_
        refine ⟨_, _, _, .tmp rfl (.tmp rfl .nil), .cons (.same _) (.cons (.same _) .nil), rfl, ?_⟩
        rw [if_pos (by omega), h3]; rfl
      · skip
        refine ARun.skip ?_
        refine ARun.seq ?_
        refine ARun.region ?_
        refine y_op rfl (q_assign rfl) ?_
        refine y_op rfl (q_assign rfl) ?_
        refine AOps.nil ?_
        -- RET results [(2,), (3,)]
        refine ARun.ret ?_
        refine ⟨_, _, _, .tmp rfl (.tmp rfl .nil), .cons (.same _) (.cons (.same _) .nil), rfl, ?_⟩
        rw [if_neg (by omega)]; rfl
    · skip
      have h2 : z.natAbs < 9223372036854775808 := by
        have := bl_le.1 (show bl z.natAbs ≤ 63 by omega)
        omega
      refine ARun.skip ?_
      refine ARun.seq ?_
      refine ARun.region ?_
      refine y_op rfl (q_assign rfl) ?_
      refine AOps.nil ?_
      refine ARun.seq ?_
      refine ARun.seq ?_
      refine ARun.region ?_
      refine y_op rfl (q_fldS rfl rfl rfl (by decide)) ?_
      refine y_op rfl (q_load rfl rfl rfl rfl) ?_
      refine y_op rfl (q_lenSl rfl rfl) ?_
      refine y_op rfl (q_sub rfl rfl (IntWalk.i64_in _ (by omega))) ?_
      refine y_op rfl (q_assign rfl) ?_
      refine AOps.nil ?_
      refine ARun.block ?_
      -- LOOP writes [4, 5, 20, 21, 22, 23, 24, 25, 26, 27, 28, 29, 30, 31, 32]
      refine ARun.loopI (S := Nat × Int × Nat) (fun σ : Nat × Int × Nat => [(20, .any), (21, .any), (22, .any), (23, .any), (24, .any), (25, .any), (26, .any), (27, .any), (28, .any), (29, .any), (30, .any), (31, .any), (32, .any), (4, .int .i64 (σ.2.2 : Int)), (5, .int .i64 σ.2.1)]) (fun σ : Nat × Int × Nat => []) (fun σ : Nat × Int × Nat => σ.2.1 = (σ.1 : Int) - 1 ∧ σ.1 ≤ (lim z.natAbs).length ∧ σ.2.2 = z.natAbs / B ^ σ.1) (fun σ : Nat × Int × Nat => σ.1) (((lim z.natAbs).length, ((lim z.natAbs).length : Int) - 1, 0)) ?_ ?_ ?_ ?_
      · exact ⟨rfl, Nat.le_refl _, (Nat.div_eq_of_lt (ln_lt _)).symm⟩
      · (repeat' first | exact envLe_nil | apply envLe_any | apply envLe_same)
      · rfl
      rintro ⟨i, t, q⟩ hinv ih
      dsimp only at hinv ih ⊢
      obtain ⟨ht, hi, hq⟩ := hinv
      refine ARun.seq ?_
      refine ARun.seq ?_
      refine ARun.region ?_
      refine y_op rfl (q_move rfl) ?_
      refine y_op rfl (q_int rfl rfl rfl) ?_
      refine AOps.nil ?_
      -- COND on ('t', 21)
      refine ARun.cond rfl (fun h4 => ?_) (fun h4 => ?_)
      · skip
        have h4 := of_decide_eq_true h4
        obtain ⟨j, rfl⟩ : ∃ j, i = j + 1 := ⟨i - 1, by omega⟩
        obtain rfl : t = (j : Int) := by omega
        have hs := div_step z.natAbs j
        rw [show z.natAbs / B ^ (j + 1) * B = z.natAbs / B ^ (j + 1) * 4294967296 from rfl] at hs
        have hle : z.natAbs / B ^ j ≤ z.natAbs := Nat.div_le_self _ _
        have hdj := dig_lt z.natAbs j
        rw [← hq] at hs
        refine ARun.skip ?_
        refine ARun.seq ?_
        refine ARun.block ?_
        refine ARun.region ?_
        refine y_op rfl (q_move rfl) ?_
        refine y_op rfl (q_shl rfl rfl (by omega) (shl32_i64 (by omega))) ?_
        refine y_op rfl (q_fldS rfl rfl rfl (by decide)) ?_
        refine y_op rfl (q_load rfl rfl rfl rfl) ?_
        refine y_op rfl (q_move rfl) ?_
        refine y_op rfl (q_idxSl (i := (j : Int)) rfl rfl rfl rfl (by omega) (by omega) (nts_ne (by omega)) (drop_nat rfl)) ?_
        refine y_op rfl (q_load rfl rfl rfl (lim_load (i := j) (by omega))) ?_
        refine y_op rfl (q_conv rfl rfl rfl (nconv_i64 (by omega))) ?_
        refine y_op rfl (q_add (r := ((z.natAbs / B ^ j : Nat) : Int)) rfl rfl (by rw [IntWalk.i64_in _ (by omega)]; omega)) ?_
        refine y_op rfl (q_assign rfl) ?_
        refine AOps.nil ?_
        refine ARun.inBlock ?_
        refine ARun.region ?_
        refine y_op rfl (q_move rfl) ?_
        refine y_op rfl (q_sub rfl rfl (IntWalk.i64_in _ (by omega))) ?_
        refine y_op rfl (q_assign rfl) ?_
        refine AOps.nil ?_
        -- LOOP's end
        refine ARun.again (ih ((j, (j : Int) - 1, z.natAbs / B ^ j)) ?_ ?_) ?_ ?_
        · exact ⟨rfl, by dsimp only; omega, rfl⟩
        · exact Nat.lt_succ_self _
        · (repeat' first | exact envLe_nil | apply envLe_any | apply envLe_same)
        · rfl
      · skip
        have h4 := of_decide_eq_false h4
        obtain rfl : i = 0 := by omega
        rw [Nat.pow_zero, Nat.div_one] at hq
        subst hq
        refine ARun.exit rfl ?_
        refine ARun.seq ?_
        refine ARun.seq ?_
        refine ARun.region ?_
        refine y_op rfl (q_fldS rfl rfl rfl (by decide)) ?_
        refine y_op rfl (q_load rfl rfl rfl rfl) ?_
        refine AOps.nil ?_
        -- COND on ('t', 34)
        refine ARun.cond rfl (fun h5 => ?_) (fun h5 => ?_)
        · skip
          have h5 := of_decide_eq_true h5
          refine ARun.region ?_
          refine y_op rfl (q_move rfl) ?_
          refine y_op rfl (q_neg (r := z) rfl (by rw [IntWalk.i64_in _ (by omega)]; omega)) ?_
          refine y_op rfl (q_assign rfl) ?_
          refine AOps.nil ?_
          refine ARun.seq ?_
          refine ARun.region ?_
          refine y_op rfl (q_move rfl) ?_
          refine y_op rfl (q_assign rfl) ?_
          refine y_op rfl (q_assign rfl) ?_
          refine AOps.nil ?_
          -- RET results [(2,), (3,)]
          refine ARun.ret ?_
          refine ⟨_, _, _, .tmp rfl (.tmp rfl .nil), .cons (.same _) (.cons (.same _) .nil), rfl, ?_⟩
          rw [if_pos (by omega)]; rfl
        · skip
          have h5 := of_decide_eq_false h5
          refine ARun.skip ?_
          refine ARun.seq ?_
          refine ARun.region ?_
          refine y_op rfl (q_move rfl) ?_
          refine y_op rfl (q_assign rfl) ?_
          refine y_op rfl (q_assign rfl) ?_
          refine AOps.nil ?_
          -- RET results [(2,), (3,)]
          refine ARun.ret ?_
          refine ⟨_, _, _, .tmp rfl (.tmp rfl .nil), .cons (.same _) (.cons (.same _) .nil), rfl, ?_⟩
          rw [if_pos (by omega)]
          show Out.ret (.tup [.int .i64 ((z.natAbs : Nat) : Int), .int .i64 0]) = _
          rw [show ((z.natAbs : Nat) : Int) = z by omega]
end Go.V


set_option maxHeartbeats 4000000
set_option synthInstance.maxSize 100000
set_option synthInstance.maxHeartbeats 2000000
namespace Go.V
open Go.RowKit Go.Proofs

theorem q_intEqT {C : Ctx} {dst : Option Tmp} {x y : Operand} {xt yt ty : TypeId} {pos : String} {aft : Array Edge} {gd : Option (Nat × Bool)} {env : List D} {H : Heap} {k : IntKind} {m n : Int} (hx : evO C env x = some (.int k m)) (hy : evO C env y = some (.int k n)) (h : m = n) : OpQ C ⟨dst, .binOp .eql xt x y yt, ty, pos, aft, gd⟩ env H (.bool true) :=
  o_int hx hy (by subst h; simp [intBin])
theorem q_boolEqT {C : Ctx} {dst : Option Tmp} {x y : Operand} {xt yt ty : TypeId} {pos : String} {aft : Array Edge} {gd : Option (Nat × Bool)} {env : List D} {H : Heap} {s t : Bool} {S b : Nat} {zv : Value} (ht : C.ty xt = some ⟨.bool, S, b, zv⟩) (hx : evO C env x = some (.bool s)) (hy : evO C env y = some (.bool t)) (h : s = t) : OpQ C ⟨dst, .binOp .eql xt x y yt, ty, pos, aft, gd⟩ env H (.bool true) := by
  have := q_boolEq (C := C) (H := H) (dst := dst) (ty := ty) (pos := pos) (aft := aft) (gd := gd) (yt := yt) hx hy ht
  rw [h, beq_self_eq_true] at this
  exact this
theorem same_T (x : Int) : PC C n_R02_Same [intD x, intD x] (fun o => o = .ret (.bool true)) := (pc_s_Same x x).mono fun o ho => by rw [ho, decide_eq_true rfl]
theorem pc_l_Forms (d1 d2 : Bool × List Nat) (h1 : U32 d1.2) (h2 : U32 d2.2) (n : Int) (hn1 : -9223372036854775808 ≤ n) (hn2 : n ≤ 9223372036854775807) : PC C n_law02_WholeForms [intA d1.1 d1.2, intA d2.1 d2.2, .int .i64 n] (fun o => o = .ret (.bool true)) := by
  refine PC.run fn_law02_WholeForms en_law02_WholeForms rfl nt_law02_WholeForms rfl (rs := [.tmp 6]) (by rw [rs_law02_WholeForms]) (by simp only [List.length_cons, List.length_nil, Nat.reduceAdd, Nat.reduceSub, List.replicate_succ, List.replicate_zero, List.cons_append, List.nil_append]; exact rfl) ?_
  refine ARun.seq ?_
  refine ARun.region ?_
  refine y_op rfl (q_boxF rfl rfl rfl rfl) ?_
  refine y_op rfl (q_boxF rfl rfl rfl rfl) ?_
  refine y_op rfl (q_assign rfl) ?_
  refine AOps.nil ?_
  refine ARun.seq ?_
  refine ARun.seq ?_
  refine ARun.region ?_
  refine y_op rfl (q_loadAgg rfl rfl rfl rfl rfl) ?_
  refine y_op rfl (q_call rfl rfl (pc_l_small d1 2000)) ?_
  refine y_op rfl (q_not rfl) ?_
  refine y_op rfl (q_move rfl) ?_
  -- guard: slot 22
  refine AOps.bool 22 rfl (fun g1 => ?_) (fun g1 => ?_)
  · skip
    refine y_skip rfl ?_
    refine y_skip rfl ?_
    refine y_skip rfl ?_
    refine y_op rfl (q_pick rfl rfl rfl rfl) ?_
    refine AOps.nil ?_
    -- COND on ('t', 26)
    refine ARun.condT rfl ?_
    refine ARun.seq ?_
    refine ARun.region ?_
    refine y_op rfl (q_call rfl rfl (pc_l_awake)) ?_
    refine y_op rfl (q_assign rfl) ?_
    refine AOps.nil ?_
    -- RET results [(6,)]
    refine ARun.ret ?_
    refine ⟨_, _, _, .tmp rfl .nil, .cons (.same _) .nil, rfl, ?_⟩
    rfl
  · skip
    refine y_op rfl (q_loadAgg rfl rfl rfl rfl rfl) ?_
    refine y_op rfl (q_call rfl rfl (pc_l_small d2 2000)) ?_
    refine y_op rfl (q_not rfl) ?_
    refine y_op rfl (q_pick rfl rfl rfl rfl) ?_
    refine AOps.nil ?_
    -- COND on ('t', 26)
    refine ARun.cond rfl (fun g2 => ?_) (fun g2 => ?_)
    · skip
      refine ARun.seq ?_
      refine ARun.region ?_
      refine y_op rfl (q_call rfl rfl (pc_l_awake)) ?_
      refine y_op rfl (q_assign rfl) ?_
      refine AOps.nil ?_
      -- RET results [(6,)]
      refine ARun.ret ?_
      refine ⟨_, _, _, .tmp rfl .nil, .cons (.same _) .nil, rfl, ?_⟩
      rfl
    · skip
      refine ARun.skip ?_
      refine ARun.seq ?_
      refine ARun.region ?_
      refine y_op rfl (q_loadAgg rfl rfl rfl rfl rfl) ?_
      refine y_op rfl (q_call rfl rfl (pc_w_ToInt d1 h1)) ?_
      refine y_op rfl (q_move rfl) ?_
      refine y_op rfl (q_extract rfl rfl) ?_
      refine y_op rfl (q_extract rfl rfl) ?_
      refine y_op rfl (q_assign rfl) ?_
      refine y_op rfl (q_assign rfl) ?_
      refine AOps.nil ?_
      refine ARun.seq ?_
      refine ARun.region ?_
      refine y_op rfl (q_loadAgg rfl rfl rfl rfl rfl) ?_
      refine y_op rfl (q_call rfl rfl (pc_s_ToInt d1 h1)) ?_
      refine y_op rfl (q_move rfl) ?_
      refine y_op rfl (q_extract rfl rfl) ?_
      refine y_op rfl (q_extract rfl rfl) ?_
      refine y_op rfl (q_assign rfl) ?_
      refine y_op rfl (q_assign rfl) ?_
      refine AOps.nil ?_
      refine ARun.seq ?_
      refine ARun.region ?_
      refine y_op rfl (q_loadAgg rfl rfl rfl rfl rfl) ?_
      refine y_op rfl (q_call rfl rfl (pc_w_Sign d1 h1)) ?_
      refine y_op rfl (q_move rfl) ?_
      refine y_op rfl (q_extract rfl rfl) ?_
      refine y_op rfl (q_extract rfl rfl) ?_
      refine y_op rfl (q_assign rfl) ?_
      refine y_op rfl (q_assign rfl) ?_
      refine AOps.nil ?_
      refine ARun.seq ?_
      refine ARun.region ?_
      refine y_op rfl (q_loadAgg rfl rfl rfl rfl rfl) ?_
      refine y_op rfl (q_call rfl rfl (pc_s_Sign d1 h1)) ?_
      refine y_op rfl (q_move rfl) ?_
      refine y_op rfl (q_extract rfl rfl) ?_
      refine y_op rfl (q_extract rfl rfl) ?_
      refine y_op rfl (q_assign rfl) ?_
      refine y_op rfl (q_assign rfl) ?_
      refine AOps.nil ?_
      refine ARun.seq ?_
      refine ARun.region ?_
      refine y_op rfl (q_loadAgg rfl rfl rfl rfl rfl) ?_
      refine y_op rfl (q_loadAgg rfl rfl rfl rfl rfl) ?_
      refine y_op rfl (q_call rfl rfl (pc_w_Cmp d1 d2 h1 h2)) ?_
      refine y_op rfl (q_move rfl) ?_
      refine y_op rfl (q_extract rfl rfl) ?_
      refine y_op rfl (q_extract rfl rfl) ?_
      refine y_op rfl (q_assign rfl) ?_
      refine y_op rfl (q_assign rfl) ?_
      refine AOps.nil ?_
      refine ARun.seq ?_
      refine ARun.region ?_
      refine y_op rfl (q_loadAgg rfl rfl rfl rfl rfl) ?_
      refine y_op rfl (q_loadAgg rfl rfl rfl rfl rfl) ?_
      refine y_op rfl (q_call rfl rfl (pc_s_Cmp d1 d2 h1 h2)) ?_
      refine y_op rfl (q_move rfl) ?_
      refine y_op rfl (q_extract rfl rfl) ?_
      refine y_op rfl (q_extract rfl rfl) ?_
      refine y_op rfl (q_assign rfl) ?_
      refine y_op rfl (q_assign rfl) ?_
      refine AOps.nil ?_
      refine ARun.seq ?_
      refine ARun.drawnP 45 (fun _ => False) mixC rfl rfl (by kernel_rfl) (fun _ _ h => h.elim) ?_
      refine .op rfl (q_call rfl rfl (pc_l_awake)) ?_
      refine .op rfl (q_move rfl) ?_
      refine .op rfl (q_loadAgg rfl rfl rfl rfl rfl) ?_
      refine .op rfl (q_call rfl rfl (pc_w_Valid d1)) ?_
      refine .op rfl (q_loadAgg rfl rfl rfl rfl rfl) ?_
      refine .op rfl (q_call rfl rfl (pc_s_Valid d1)) ?_
      refine .op rfl (q_boolEqT rfl rfl rfl rfl) ?_
      refine .op rfl (q_pick rfl rfl rfl rfl) ?_
      refine .op rfl (q_move rfl) ?_
      refine .op rfl (q_move rfl) ?_
      refine .op rfl (q_call rfl rfl (pc_w_FromInt n hn1 hn2)) ?_
      refine .op rfl (q_move rfl) ?_
      refine .op rfl (q_call rfl rfl (pc_s_FromInt n hn1 hn2)) ?_
      refine .op rfl (q_call rfl rfl (same_T n)) ?_
      refine .op rfl (q_pick rfl rfl rfl rfl) ?_
      refine .op rfl (q_move rfl) ?_
      refine .op rfl (q_move rfl) ?_
      refine .op rfl (q_move rfl) ?_
      refine .op rfl (q_intEqT rfl rfl rfl) ?_
      refine .op rfl (q_pick rfl rfl rfl rfl) ?_
      refine .op rfl (q_move rfl) ?_
      refine .op rfl (q_move rfl) ?_
      refine .op rfl (q_move rfl) ?_
      refine .op rfl (q_intEqT rfl rfl rfl) ?_
      refine .op rfl (q_pick rfl rfl rfl rfl) ?_
      refine .op rfl (q_move rfl) ?_
      refine .op rfl (q_move rfl) ?_
      refine .op rfl (q_move rfl) ?_
      refine .op rfl (q_intEqT rfl rfl rfl) ?_
      refine .op rfl (q_pick rfl rfl rfl rfl) ?_
      refine .op rfl (q_move rfl) ?_
      refine .op rfl (q_move rfl) ?_
      refine .op rfl (q_move rfl) ?_
      refine .op rfl (q_intEqT rfl rfl rfl) ?_
      refine .op rfl (q_pick rfl rfl rfl rfl) ?_
      refine .op rfl (q_move rfl) ?_
      refine .op rfl (q_move rfl) ?_
      refine .op rfl (q_move rfl) ?_
      refine .op rfl (q_intEqT rfl rfl rfl) ?_
      refine .op rfl (q_pick rfl rfl rfl rfl) ?_
      refine .op rfl (q_move rfl) ?_
      refine .op rfl (q_move rfl) ?_
      refine .op rfl (q_move rfl) ?_
      refine .op rfl (q_intEqT rfl rfl rfl) ?_
      refine .op rfl (q_pick rfl rfl rfl rfl) ?_
      refine .nil (fun hG => ?_)
      refine y_op rfl (q_assign rfl) ?_
      refine AOps.nil ?_
      -- RET results [(6,)]
      refine ARun.ret ?_
      refine ⟨_, _, _, .tmp rfl .nil, .cons (.same _) .nil, rfl, ?_⟩
      rfl
end Go.V
