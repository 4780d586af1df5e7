/- A part of the proof: abstract values, rules for the steps of the program's form, and contracts of its functions, each proved; no condition. -/
import Derived.Test.YtjohcjagbodicaaGreatDoorA12
set_option linter.unusedVariables false
set_option linter.unusedSimpArgs false
set_option maxHeartbeats 4000000
set_option maxRecDepth 100000
set_option synthInstance.maxSize 100000
set_option synthInstance.maxHeartbeats 2000000
namespace Go.V
open Go.RowKit Go.Proofs
def digV (c : Nat) : Nat := if 48 ≤ c ∧ c ≤ 57 then c - 48 else if 97 ≤ c ∧ c ≤ 122 then c - 87 else if 65 ≤ c ∧ c ≤ 90 then c - 55 else 36
theorem Zir (c : Nat) (hc : c < 256) : PC C Zjf [.int .u8 (c : Int)] (fun o => o = .ret (.int .i64 ((digV c : Nat) : Int))) := by
  refine PC.rn ZdM ZhQ ZhR (rs := [.tmp 2]) (by rw [ZhS]) ?_
  refine ARun.seq (ARun.region ?_); refine xa ?_; refine AOps.nil (ARun.seq (ARun.block (ARun.seq (ARun.region ?_)))); refine xm ?_; refine xi ?_; refine xm ?_
  refine AOps.bool 6 rfl (fun a0 => ?_) (fun a0 => ?_)
  · skip
    have a0' := of_decide_eq_true a0
    refine xm ?_; refine xi ?_; refine xp ?_; refine xa ?_; refine AOps.nil ?_
    refine ARun.ite rfl (fun b0 => ?_) (fun b0 => ?_)
    · skip
      have hv : digV c = c - 48 := by unfold digV; (repeat' split) <;> omega
      have hc1 : 48 ≤ c := by omega
      refine ARun.seq (ARun.region ?_); refine xm ?_
      refine y_op rfl (q_sub rfl rfl (show _ = ((c - 48 : Nat) : Int) by rw [IntKind.wrap_u8]; omega)) ?_
      refine y_op rfl (q_conv rfl rfl rfl (nconv_i64 (by omega))) ?_
      refine xa ?_; refine AOps.nil ?_
      refine ARun.ret ?_
      refine ⟨_, _, _, .tmp rfl .nil, .cons (.same _) .nil, rfl, ?_⟩
      rw [hv, show ((c - 48 : Nat) : Int) = ((c - 48 : Nat) : Int) by omega]; rfl
    refine ARun.seq (ARun.region ?_); refine xm ?_; refine xi ?_; refine xm ?_
    refine AOps.bool 16 rfl (fun a1 => ?_) (fun a1 => ?_)
    · skip
      have a1' := of_decide_eq_true a1
      refine xm ?_; refine xi ?_; refine xp ?_; refine xa ?_; refine AOps.nil ?_
      refine ARun.ite rfl (fun b1 => ?_) (fun b1 => ?_)
      · skip
        have hv : digV c = c - 87 := by unfold digV; (repeat' split) <;> omega
        have hc1 : 97 ≤ c := by omega
        refine ARun.seq (ARun.region ?_); refine xm ?_
        refine y_op rfl (q_sub rfl rfl (show _ = ((c - 97 : Nat) : Int) by rw [IntKind.wrap_u8]; omega)) ?_
        refine y_op rfl (q_conv rfl rfl rfl (nconv_i64 (by omega))) ?_
        refine y_op rfl (q_add rfl rfl (nadd1_i64 (by omega))) ?_
        refine xa ?_; refine AOps.nil ?_
        refine ARun.ret ?_
        refine ⟨_, _, _, .tmp rfl .nil, .cons (.same _) .nil, rfl, ?_⟩
        rw [hv, show ((c - 87 : Nat) : Int) = ((c - 97 : Nat) : Int) + 10 by omega]; rfl
      refine ARun.seq (ARun.region ?_); refine xm ?_; refine xi ?_; refine xm ?_
      refine AOps.bool 27 rfl (fun a2 => ?_) (fun a2 => ?_)
      · skip
        have a2' := of_decide_eq_true a2
        refine xm ?_; refine xi ?_; refine xp ?_; refine xa ?_; refine AOps.nil ?_
        refine ARun.ite rfl (fun b2 => ?_) (fun b2 => ?_)
        · skip
          have hv : digV c = c - 55 := by unfold digV; (repeat' split) <;> omega
          have hc1 : 65 ≤ c := by omega
          refine ARun.seq (ARun.region ?_); refine xm ?_
          refine y_op rfl (q_sub rfl rfl (show _ = ((c - 65 : Nat) : Int) by rw [IntKind.wrap_u8]; omega)) ?_
          refine y_op rfl (q_conv rfl rfl rfl (nconv_i64 (by omega))) ?_
          refine y_op rfl (q_add rfl rfl (nadd1_i64 (by omega))) ?_
          refine xa ?_; refine AOps.nil ?_
          refine ARun.ret ?_
          refine ⟨_, _, _, .tmp rfl .nil, .cons (.same _) .nil, rfl, ?_⟩
          rw [hv, show ((c - 55 : Nat) : Int) = ((c - 65 : Nat) : Int) + 10 by omega]; rfl
        have hv : digV c = 36 := by unfold digV; (repeat' split) <;> omega
        refine ARun.skip (ARun.inBlock (ARun.seq (ARun.region ?_))); refine xa ?_; refine AOps.nil ?_
        refine ARun.ret ?_
        refine ⟨_, _, _, .tmp rfl .nil, .cons (.same _) .nil, rfl, ?_⟩
        rw [hv]; rfl
      have a2' := of_decide_eq_false a2
      refine xk ?_; refine xk ?_; refine xp ?_; refine xa ?_; refine AOps.nil ?_
      refine ARun.condF rfl ?_
      have hv : digV c = 36 := by unfold digV; (repeat' split) <;> omega
      refine ARun.skip (ARun.inBlock (ARun.seq (ARun.region ?_))); refine xa ?_; refine AOps.nil ?_
      refine ARun.ret ?_
      refine ⟨_, _, _, .tmp rfl .nil, .cons (.same _) .nil, rfl, ?_⟩
      rw [hv]; rfl
    have a1' := of_decide_eq_false a1
    refine xk ?_; refine xk ?_; refine xp ?_; refine xa ?_; refine AOps.nil ?_
    refine ARun.condF rfl ?_
    refine ARun.seq (ARun.region ?_); refine xm ?_; refine xi ?_; refine xm ?_
    refine AOps.bool 27 rfl (fun a2 => ?_) (fun a2 => ?_)
    · skip
      have a2' := of_decide_eq_true a2
      refine xm ?_; refine xi ?_; refine xp ?_; refine xa ?_; refine AOps.nil ?_
      refine ARun.ite rfl (fun b2 => ?_) (fun b2 => ?_)
      · skip
        have hv : digV c = c - 55 := by unfold digV; (repeat' split) <;> omega
        have hc1 : 65 ≤ c := by omega
        refine ARun.seq (ARun.region ?_); refine xm ?_
        refine y_op rfl (q_sub rfl rfl (show _ = ((c - 65 : Nat) : Int) by rw [IntKind.wrap_u8]; omega)) ?_
        refine y_op rfl (q_conv rfl rfl rfl (nconv_i64 (by omega))) ?_
        refine y_op rfl (q_add rfl rfl (nadd1_i64 (by omega))) ?_
        refine xa ?_; refine AOps.nil ?_
        refine ARun.ret ?_
        refine ⟨_, _, _, .tmp rfl .nil, .cons (.same _) .nil, rfl, ?_⟩
        rw [hv, show ((c - 55 : Nat) : Int) = ((c - 65 : Nat) : Int) + 10 by omega]; rfl
      have hv : digV c = 36 := by unfold digV; (repeat' split) <;> omega
      refine ARun.skip (ARun.inBlock (ARun.seq (ARun.region ?_))); refine xa ?_; refine AOps.nil ?_
      refine ARun.ret ?_
      refine ⟨_, _, _, .tmp rfl .nil, .cons (.same _) .nil, rfl, ?_⟩
      rw [hv]; rfl
    have a2' := of_decide_eq_false a2
    refine xk ?_; refine xk ?_; refine xp ?_; refine xa ?_; refine AOps.nil ?_
    refine ARun.condF rfl ?_
    have hv : digV c = 36 := by unfold digV; (repeat' split) <;> omega
    refine ARun.skip (ARun.inBlock (ARun.seq (ARun.region ?_))); refine xa ?_; refine AOps.nil ?_
    refine ARun.ret ?_
    refine ⟨_, _, _, .tmp rfl .nil, .cons (.same _) .nil, rfl, ?_⟩
    rw [hv]; rfl
  have a0' := of_decide_eq_false a0
  refine xk ?_; refine xk ?_; refine xp ?_; refine xa ?_; refine AOps.nil ?_
  refine ARun.condF rfl ?_
  refine ARun.seq (ARun.region ?_); refine xm ?_; refine xi ?_; refine xm ?_
  refine AOps.bool 16 rfl (fun a1 => ?_) (fun a1 => ?_)
  · skip
    have a1' := of_decide_eq_true a1
    refine xm ?_; refine xi ?_; refine xp ?_; refine xa ?_; refine AOps.nil ?_
    refine ARun.ite rfl (fun b1 => ?_) (fun b1 => ?_)
    · skip
      have hv : digV c = c - 87 := by unfold digV; (repeat' split) <;> omega
      have hc1 : 97 ≤ c := by omega
      refine ARun.seq (ARun.region ?_); refine xm ?_
      refine y_op rfl (q_sub rfl rfl (show _ = ((c - 97 : Nat) : Int) by rw [IntKind.wrap_u8]; omega)) ?_
      refine y_op rfl (q_conv rfl rfl rfl (nconv_i64 (by omega))) ?_
      refine y_op rfl (q_add rfl rfl (nadd1_i64 (by omega))) ?_
      refine xa ?_; refine AOps.nil ?_
      refine ARun.ret ?_
      refine ⟨_, _, _, .tmp rfl .nil, .cons (.same _) .nil, rfl, ?_⟩
      rw [hv, show ((c - 87 : Nat) : Int) = ((c - 97 : Nat) : Int) + 10 by omega]; rfl
    refine ARun.seq (ARun.region ?_); refine xm ?_; refine xi ?_; refine xm ?_
    refine AOps.bool 27 rfl (fun a2 => ?_) (fun a2 => ?_)
    · skip
      have a2' := of_decide_eq_true a2
      refine xm ?_; refine xi ?_; refine xp ?_; refine xa ?_; refine AOps.nil ?_
      refine ARun.ite rfl (fun b2 => ?_) (fun b2 => ?_)
      · skip
        have hv : digV c = c - 55 := by unfold digV; (repeat' split) <;> omega
        have hc1 : 65 ≤ c := by omega
        refine ARun.seq (ARun.region ?_); refine xm ?_
        refine y_op rfl (q_sub rfl rfl (show _ = ((c - 65 : Nat) : Int) by rw [IntKind.wrap_u8]; omega)) ?_
        refine y_op rfl (q_conv rfl rfl rfl (nconv_i64 (by omega))) ?_
        refine y_op rfl (q_add rfl rfl (nadd1_i64 (by omega))) ?_
        refine xa ?_; refine AOps.nil ?_
        refine ARun.ret ?_
        refine ⟨_, _, _, .tmp rfl .nil, .cons (.same _) .nil, rfl, ?_⟩
        rw [hv, show ((c - 55 : Nat) : Int) = ((c - 65 : Nat) : Int) + 10 by omega]; rfl
      have hv : digV c = 36 := by unfold digV; (repeat' split) <;> omega
      refine ARun.skip (ARun.inBlock (ARun.seq (ARun.region ?_))); refine xa ?_; refine AOps.nil ?_
      refine ARun.ret ?_
      refine ⟨_, _, _, .tmp rfl .nil, .cons (.same _) .nil, rfl, ?_⟩
      rw [hv]; rfl
    have a2' := of_decide_eq_false a2
    refine xk ?_; refine xk ?_; refine xp ?_; refine xa ?_; refine AOps.nil ?_
    refine ARun.condF rfl ?_
    have hv : digV c = 36 := by unfold digV; (repeat' split) <;> omega
    refine ARun.skip (ARun.inBlock (ARun.seq (ARun.region ?_))); refine xa ?_; refine AOps.nil ?_
    refine ARun.ret ?_
    refine ⟨_, _, _, .tmp rfl .nil, .cons (.same _) .nil, rfl, ?_⟩
    rw [hv]; rfl
  have a1' := of_decide_eq_false a1
  refine xk ?_; refine xk ?_; refine xp ?_; refine xa ?_; refine AOps.nil ?_
  refine ARun.condF rfl ?_
  refine ARun.seq (ARun.region ?_); refine xm ?_; refine xi ?_; refine xm ?_
  refine AOps.bool 27 rfl (fun a2 => ?_) (fun a2 => ?_)
  · skip
    have a2' := of_decide_eq_true a2
    refine xm ?_; refine xi ?_; refine xp ?_; refine xa ?_; refine AOps.nil ?_
    refine ARun.ite rfl (fun b2 => ?_) (fun b2 => ?_)
    · skip
      have hv : digV c = c - 55 := by unfold digV; (repeat' split) <;> omega
      have hc1 : 65 ≤ c := by omega
      refine ARun.seq (ARun.region ?_); refine xm ?_
      refine y_op rfl (q_sub rfl rfl (show _ = ((c - 65 : Nat) : Int) by rw [IntKind.wrap_u8]; omega)) ?_
      refine y_op rfl (q_conv rfl rfl rfl (nconv_i64 (by omega))) ?_
      refine y_op rfl (q_add rfl rfl (nadd1_i64 (by omega))) ?_
      refine xa ?_; refine AOps.nil ?_
      refine ARun.ret ?_
      refine ⟨_, _, _, .tmp rfl .nil, .cons (.same _) .nil, rfl, ?_⟩
      rw [hv, show ((c - 55 : Nat) : Int) = ((c - 65 : Nat) : Int) + 10 by omega]; rfl
    have hv : digV c = 36 := by unfold digV; (repeat' split) <;> omega
    refine ARun.skip (ARun.inBlock (ARun.seq (ARun.region ?_))); refine xa ?_; refine AOps.nil ?_
    refine ARun.ret ?_
    refine ⟨_, _, _, .tmp rfl .nil, .cons (.same _) .nil, rfl, ?_⟩
    rw [hv]; rfl
  have a2' := of_decide_eq_false a2
  refine xk ?_; refine xk ?_; refine xp ?_; refine xa ?_; refine AOps.nil ?_
  refine ARun.condF rfl ?_
  have hv : digV c = 36 := by unfold digV; (repeat' split) <;> omega
  refine ARun.skip (ARun.inBlock (ARun.seq (ARun.region ?_))); refine xa ?_; refine AOps.nil ?_
  refine ARun.ret ?_
  refine ⟨_, _, _, .tmp rfl .nil, .cons (.same _) .nil, rfl, ?_⟩
  rw [hv]; rfl
theorem Ze9 (c : Nat) (hc : c < 256) : PC C Zlr [.int .u8 (c : Int)] (fun o => o = .ret (.int .i64 (if digV c = 36 then -1 else ((digV c : Nat) : Int)))) := by
  refine PC.rn Zfp Zko Zkp (rs := [.tmp 2]) (by rw [Zkq]) ?_
  refine ARun.seq (ARun.region ?_); refine xa ?_; refine AOps.nil (ARun.seq (ARun.block (ARun.seq (ARun.region ?_)))); refine xm ?_; refine xi ?_; refine xm ?_
  refine AOps.bool 6 rfl (fun a0 => ?_) (fun a0 => ?_)
  · skip
    have a0' := of_decide_eq_true a0
    refine xm ?_; refine xi ?_; refine xp ?_; refine xa ?_; refine AOps.nil ?_
    refine ARun.ite rfl (fun b0 => ?_) (fun b0 => ?_)
    · skip
      have hv : digV c = c - 48 := by unfold digV; (repeat' split) <;> omega
      have hc1 : 48 ≤ c := by omega
      refine ARun.seq (ARun.region ?_); refine xm ?_
      refine y_op rfl (q_sub rfl rfl (show _ = ((c - 48 : Nat) : Int) by rw [IntKind.wrap_u8]; omega)) ?_
      refine y_op rfl (q_conv rfl rfl rfl (nconv_i64 (by omega))) ?_
      refine xa ?_; refine AOps.nil ?_
      refine ARun.ret ?_
      refine ⟨_, _, _, .tmp rfl .nil, .cons (.same _) .nil, rfl, ?_⟩
      rw [if_neg (show ¬ digV c = 36 by omega)]; rw [hv, show ((c - 48 : Nat) : Int) = ((c - 48 : Nat) : Int) by omega]; rfl
    refine ARun.seq (ARun.region ?_); refine xm ?_; refine xi ?_; refine xm ?_
    refine AOps.bool 16 rfl (fun a1 => ?_) (fun a1 => ?_)
    · skip
      have a1' := of_decide_eq_true a1
      refine xm ?_; refine xi ?_; refine xp ?_; refine xa ?_; refine AOps.nil ?_
      refine ARun.ite rfl (fun b1 => ?_) (fun b1 => ?_)
      · skip
        have hv : digV c = c - 87 := by unfold digV; (repeat' split) <;> omega
        have hc1 : 97 ≤ c := by omega
        refine ARun.seq (ARun.region ?_); refine xm ?_
        refine y_op rfl (q_sub rfl rfl (show _ = ((c - 97 : Nat) : Int) by rw [IntKind.wrap_u8]; omega)) ?_
        refine y_op rfl (q_conv rfl rfl rfl (nconv_i64 (by omega))) ?_
        refine y_op rfl (q_add rfl rfl (nadd1_i64 (by omega))) ?_
        refine xa ?_; refine AOps.nil ?_
        refine ARun.ret ?_
        refine ⟨_, _, _, .tmp rfl .nil, .cons (.same _) .nil, rfl, ?_⟩
        rw [if_neg (show ¬ digV c = 36 by omega)]; rw [hv, show ((c - 87 : Nat) : Int) = ((c - 97 : Nat) : Int) + 10 by omega]; rfl
      refine ARun.seq (ARun.region ?_); refine xm ?_; refine xi ?_; refine xm ?_
      refine AOps.bool 27 rfl (fun a2 => ?_) (fun a2 => ?_)
      · skip
        have a2' := of_decide_eq_true a2
        refine xm ?_; refine xi ?_; refine xp ?_; refine xa ?_; refine AOps.nil ?_
        refine ARun.ite rfl (fun b2 => ?_) (fun b2 => ?_)
        · skip
          have hv : digV c = c - 55 := by unfold digV; (repeat' split) <;> omega
          have hc1 : 65 ≤ c := by omega
          refine ARun.seq (ARun.region ?_); refine xm ?_
          refine y_op rfl (q_sub rfl rfl (show _ = ((c - 65 : Nat) : Int) by rw [IntKind.wrap_u8]; omega)) ?_
          refine y_op rfl (q_conv rfl rfl rfl (nconv_i64 (by omega))) ?_
          refine y_op rfl (q_add rfl rfl (nadd1_i64 (by omega))) ?_
          refine xa ?_; refine AOps.nil ?_
          refine ARun.ret ?_
          refine ⟨_, _, _, .tmp rfl .nil, .cons (.same _) .nil, rfl, ?_⟩
          rw [if_neg (show ¬ digV c = 36 by omega)]; rw [hv, show ((c - 55 : Nat) : Int) = ((c - 65 : Nat) : Int) + 10 by omega]; rfl
        have hv : digV c = 36 := by unfold digV; (repeat' split) <;> omega
        refine ARun.skip (ARun.inBlock (ARun.seq (ARun.region ?_))); refine xa ?_; refine AOps.nil ?_
        refine ARun.ret ?_
        refine ⟨_, _, _, .tmp rfl .nil, .cons (.same _) .nil, rfl, ?_⟩
        rw [hv]; rfl
      have a2' := of_decide_eq_false a2
      refine xk ?_; refine xk ?_; refine xp ?_; refine xa ?_; refine AOps.nil ?_
      refine ARun.condF rfl ?_
      have hv : digV c = 36 := by unfold digV; (repeat' split) <;> omega
      refine ARun.skip (ARun.inBlock (ARun.seq (ARun.region ?_))); refine xa ?_; refine AOps.nil ?_
      refine ARun.ret ?_
      refine ⟨_, _, _, .tmp rfl .nil, .cons (.same _) .nil, rfl, ?_⟩
      rw [hv]; rfl
    have a1' := of_decide_eq_false a1
    refine xk ?_; refine xk ?_; refine xp ?_; refine xa ?_; refine AOps.nil ?_
    refine ARun.condF rfl ?_
    refine ARun.seq (ARun.region ?_); refine xm ?_; refine xi ?_; refine xm ?_
    refine AOps.bool 27 rfl (fun a2 => ?_) (fun a2 => ?_)
    · skip
      have a2' := of_decide_eq_true a2
      refine xm ?_; refine xi ?_; refine xp ?_; refine xa ?_; refine AOps.nil ?_
      refine ARun.ite rfl (fun b2 => ?_) (fun b2 => ?_)
      · skip
        have hv : digV c = c - 55 := by unfold digV; (repeat' split) <;> omega
        have hc1 : 65 ≤ c := by omega
        refine ARun.seq (ARun.region ?_); refine xm ?_
        refine y_op rfl (q_sub rfl rfl (show _ = ((c - 65 : Nat) : Int) by rw [IntKind.wrap_u8]; omega)) ?_
        refine y_op rfl (q_conv rfl rfl rfl (nconv_i64 (by omega))) ?_
        refine y_op rfl (q_add rfl rfl (nadd1_i64 (by omega))) ?_
        refine xa ?_; refine AOps.nil ?_
        refine ARun.ret ?_
        refine ⟨_, _, _, .tmp rfl .nil, .cons (.same _) .nil, rfl, ?_⟩
        rw [if_neg (show ¬ digV c = 36 by omega)]; rw [hv, show ((c - 55 : Nat) : Int) = ((c - 65 : Nat) : Int) + 10 by omega]; rfl
      have hv : digV c = 36 := by unfold digV; (repeat' split) <;> omega
      refine ARun.skip (ARun.inBlock (ARun.seq (ARun.region ?_))); refine xa ?_; refine AOps.nil ?_
      refine ARun.ret ?_
      refine ⟨_, _, _, .tmp rfl .nil, .cons (.same _) .nil, rfl, ?_⟩
      rw [hv]; rfl
    have a2' := of_decide_eq_false a2
    refine xk ?_; refine xk ?_; refine xp ?_; refine xa ?_; refine AOps.nil ?_
    refine ARun.condF rfl ?_
    have hv : digV c = 36 := by unfold digV; (repeat' split) <;> omega
    refine ARun.skip (ARun.inBlock (ARun.seq (ARun.region ?_))); refine xa ?_; refine AOps.nil ?_
    refine ARun.ret ?_
    refine ⟨_, _, _, .tmp rfl .nil, .cons (.same _) .nil, rfl, ?_⟩
    rw [hv]; rfl
  have a0' := of_decide_eq_false a0
  refine xk ?_; refine xk ?_; refine xp ?_; refine xa ?_; refine AOps.nil ?_
  refine ARun.condF rfl ?_
  refine ARun.seq (ARun.region ?_); refine xm ?_; refine xi ?_; refine xm ?_
  refine AOps.bool 16 rfl (fun a1 => ?_) (fun a1 => ?_)
  · skip
    have a1' := of_decide_eq_true a1
    refine xm ?_; refine xi ?_; refine xp ?_; refine xa ?_; refine AOps.nil ?_
    refine ARun.ite rfl (fun b1 => ?_) (fun b1 => ?_)
    · skip
      have hv : digV c = c - 87 := by unfold digV; (repeat' split) <;> omega
      have hc1 : 97 ≤ c := by omega
      refine ARun.seq (ARun.region ?_); refine xm ?_
      refine y_op rfl (q_sub rfl rfl (show _ = ((c - 97 : Nat) : Int) by rw [IntKind.wrap_u8]; omega)) ?_
      refine y_op rfl (q_conv rfl rfl rfl (nconv_i64 (by omega))) ?_
      refine y_op rfl (q_add rfl rfl (nadd1_i64 (by omega))) ?_
      refine xa ?_; refine AOps.nil ?_
      refine ARun.ret ?_
      refine ⟨_, _, _, .tmp rfl .nil, .cons (.same _) .nil, rfl, ?_⟩
      rw [if_neg (show ¬ digV c = 36 by omega)]; rw [hv, show ((c - 87 : Nat) : Int) = ((c - 97 : Nat) : Int) + 10 by omega]; rfl
    refine ARun.seq (ARun.region ?_); refine xm ?_; refine xi ?_; refine xm ?_
    refine AOps.bool 27 rfl (fun a2 => ?_) (fun a2 => ?_)
    · skip
      have a2' := of_decide_eq_true a2
      refine xm ?_; refine xi ?_; refine xp ?_; refine xa ?_; refine AOps.nil ?_
      refine ARun.ite rfl (fun b2 => ?_) (fun b2 => ?_)
      · skip
        have hv : digV c = c - 55 := by unfold digV; (repeat' split) <;> omega
        have hc1 : 65 ≤ c := by omega
        refine ARun.seq (ARun.region ?_); refine xm ?_
        refine y_op rfl (q_sub rfl rfl (show _ = ((c - 65 : Nat) : Int) by rw [IntKind.wrap_u8]; omega)) ?_
        refine y_op rfl (q_conv rfl rfl rfl (nconv_i64 (by omega))) ?_
        refine y_op rfl (q_add rfl rfl (nadd1_i64 (by omega))) ?_
        refine xa ?_; refine AOps.nil ?_
        refine ARun.ret ?_
        refine ⟨_, _, _, .tmp rfl .nil, .cons (.same _) .nil, rfl, ?_⟩
        rw [if_neg (show ¬ digV c = 36 by omega)]; rw [hv, show ((c - 55 : Nat) : Int) = ((c - 65 : Nat) : Int) + 10 by omega]; rfl
      have hv : digV c = 36 := by unfold digV; (repeat' split) <;> omega
      refine ARun.skip (ARun.inBlock (ARun.seq (ARun.region ?_))); refine xa ?_; refine AOps.nil ?_
      refine ARun.ret ?_
      refine ⟨_, _, _, .tmp rfl .nil, .cons (.same _) .nil, rfl, ?_⟩
      rw [hv]; rfl
    have a2' := of_decide_eq_false a2
    refine xk ?_; refine xk ?_; refine xp ?_; refine xa ?_; refine AOps.nil ?_
    refine ARun.condF rfl ?_
    have hv : digV c = 36 := by unfold digV; (repeat' split) <;> omega
    refine ARun.skip (ARun.inBlock (ARun.seq (ARun.region ?_))); refine xa ?_; refine AOps.nil ?_
    refine ARun.ret ?_
    refine ⟨_, _, _, .tmp rfl .nil, .cons (.same _) .nil, rfl, ?_⟩
    rw [hv]; rfl
  have a1' := of_decide_eq_false a1
  refine xk ?_; refine xk ?_; refine xp ?_; refine xa ?_; refine AOps.nil ?_
  refine ARun.condF rfl ?_
  refine ARun.seq (ARun.region ?_); refine xm ?_; refine xi ?_; refine xm ?_
  refine AOps.bool 27 rfl (fun a2 => ?_) (fun a2 => ?_)
  · skip
    have a2' := of_decide_eq_true a2
    refine xm ?_; refine xi ?_; refine xp ?_; refine xa ?_; refine AOps.nil ?_
    refine ARun.ite rfl (fun b2 => ?_) (fun b2 => ?_)
    · skip
      have hv : digV c = c - 55 := by unfold digV; (repeat' split) <;> omega
      have hc1 : 65 ≤ c := by omega
      refine ARun.seq (ARun.region ?_); refine xm ?_
      refine y_op rfl (q_sub rfl rfl (show _ = ((c - 65 : Nat) : Int) by rw [IntKind.wrap_u8]; omega)) ?_
      refine y_op rfl (q_conv rfl rfl rfl (nconv_i64 (by omega))) ?_
      refine y_op rfl (q_add rfl rfl (nadd1_i64 (by omega))) ?_
      refine xa ?_; refine AOps.nil ?_
      refine ARun.ret ?_
      refine ⟨_, _, _, .tmp rfl .nil, .cons (.same _) .nil, rfl, ?_⟩
      rw [if_neg (show ¬ digV c = 36 by omega)]; rw [hv, show ((c - 55 : Nat) : Int) = ((c - 65 : Nat) : Int) + 10 by omega]; rfl
    have hv : digV c = 36 := by unfold digV; (repeat' split) <;> omega
    refine ARun.skip (ARun.inBlock (ARun.seq (ARun.region ?_))); refine xa ?_; refine AOps.nil ?_
    refine ARun.ret ?_
    refine ⟨_, _, _, .tmp rfl .nil, .cons (.same _) .nil, rfl, ?_⟩
    rw [hv]; rfl
  have a2' := of_decide_eq_false a2
  refine xk ?_; refine xk ?_; refine xp ?_; refine xa ?_; refine AOps.nil ?_
  refine ARun.condF rfl ?_
  have hv : digV c = 36 := by unfold digV; (repeat' split) <;> omega
  refine ARun.skip (ARun.inBlock (ARun.seq (ARun.region ?_))); refine xa ?_; refine AOps.nil ?_
  refine ARun.ret ?_
  refine ⟨_, _, _, .tmp rfl .nil, .cons (.same _) .nil, rfl, ?_⟩
  rw [hv]; rfl
theorem digV_lt (c : Nat) : digV c ≤ 36 := by unfold digV; (repeat' split) <;> omega
theorem Zb5 (c : Nat) (hc : c < 256) (b : Nat) (hb : b ≤ 36) : PC C ZiZ [.int .u8 (c : Int), .int .i64 (b : Int)] (fun o => o = .ret (.bool (decide (digV c < b)))) := by
  refine PC.rn ZdJ ZhH ZhI (rs := [.tmp 4]) (by rw [ZhJ]) ?_
  refine ARun.seq (ARun.region ?_); refine xa ?_; refine AOps.nil (ARun.seq (ARun.region ?_)); refine xm ?_
  refine xc rfl rfl (Ze9 c hc) ?_
  refine xi ?_; refine xm ?_
  refine AOps.bool 8 rfl (fun g => ?_) (fun g => ?_)
  · skip
    have g := of_decide_eq_true g
    have hn : ¬ digV c = 36 := by intro h; rw [if_pos h] at g; omega
    refine xm ?_
    refine xc rfl rfl (Ze9 c hc) ?_
    refine xm ?_; refine xi ?_; refine xp ?_; refine xa ?_; refine AOps.nil ?_
    refine ARun.ret ?_
    refine ⟨_, _, _, .tmp rfl .nil, .cons (.same _) .nil, rfl, ?_⟩
    rw [if_neg hn]
    have : decide (((digV c : Nat) : Int) < (b : Int)) = decide (digV c < b) := decide_eq_decide.2 (by omega)
    rw [← this]; rfl
  have g := of_decide_eq_false g
  have hn : digV c = 36 := by
    apply Classical.byContradiction
    intro h; rw [if_neg h] at g; omega
  refine xk ?_; refine xk ?_; refine xk ?_; refine xk ?_; refine xp ?_; refine xa ?_; refine AOps.nil ?_
  refine ARun.ret ?_
  refine ⟨_, _, _, .tmp rfl .nil, .cons (.same _) .nil, rfl, ?_⟩
  rw [hn, decide_eq_false (show ¬ 36 < b by omega)]
  rfl
end Go.V
set_option maxHeartbeats 2000000
set_option synthInstance.maxSize 100000
set_option synthInstance.maxHeartbeats 2000000
namespace Go.V
open Go.RowKit Go.Proofs
def upN (n : Nat) : Nat := if 97 ≤ n ∧ n ≤ 122 then n - 32 else n
theorem up_byte (n : Nat) (h : n < 128) : Lib.upperB (UInt8.ofNat n) = UInt8.ofNat (upN n) := by
  have key : ∀ m : _root_.Fin 128, Lib.upperB (UInt8.ofNat m.val) = UInt8.ofNat (upN m.val) := by decide
  exact key ⟨n, h⟩
theorem up_bytes {l : List Nat} (h : ∀ n ∈ l, n < 128) : Lib.toUpperA (bytesOf l).data.toList = (l.map upN).map UInt8.ofNat := by
  unfold Lib.toUpperA bytesOf
  simp only [List.map_map]
  apply List.map_congr_left
  intro n hn
  exact up_byte n (h n hn)
theorem bytesOf_size (l : List Nat) : (bytesOf l).size = l.length := by simp [bytesOf, ByteArray.size]
theorem bytesOf_append (l m : List Nat) : bytesOf (l ++ m) = bytesOf l ++ bytesOf m := by
  apply ByteArray.ext
  simp [bytesOf]
theorem ZmJ (l : List Nat) (h : ∀ n ∈ l, n < 128) (hl : l.length ≤ 140737488355328) : PC C ZeF [.str (bytesOf l)] (fun o => o = .ret (.str (bytesOf (l.map upN)))) := by
  refine PC.of_below Zei (v := .string (bytesOf (l.map upN))) (fun _ _ _ _ => by simp only [VR]) fun w L μ H vs hv => ?_
  simp only [VRs, VR] at hv
  obtain ⟨v, us, rfl, rfl, rfl⟩ := hv
  have h1 := toUpper_calls (bytesOf l) w (by rw [bytesOf_size]; exact hl) (by
    intro j b hb
    have hm := List.mem_of_getElem? hb
    simp only [bytesOf, List.mem_map] at hm
    obtain ⟨n, hn, rfl⟩ := hm
    have := h n hn
    simp only [UInt8.toNat_ofNat']
    omega)
  rw [up_bytes h] at h1
  exact h1
def strZ (b : Nat) (up : Bool) (z : Int) : List Nat := (bif decide (z < 0) then [45] else []) ++ (bif up then (txt b z.natAbs).map upN else txt b z.natAbs)
def textR (d : Bool × List Nat) (base : Int) (up : Bool) : List Nat × Int := bif okI d && (decide (2 ≤ base) && decide (base ≤ 36)) then (strZ base.toNat up (valI d), 0) else ([], 1)
theorem txt_ascii {b : Nat} (hb : 2 ≤ b) (h36 : b ≤ 36) (v : Nat) : ∀ n ∈ txt b v, n < 128 := by
  intro n hn
  unfold txt at hn
  split at hn
  · simp at hn; omega
  rw [List.mem_reverse] at hn
  obtain ⟨d, hd, rfl⟩ := List.mem_map.1 hn
  have := dgs_lt hb v d hd
  unfold fig; split <;> omega
theorem txt_len {b : Nat} (hb : 2 ≤ b) {a : Nat} (ha : (lim a).length ≤ 1024) : (txt b a).length ≤ 32768 := by
  unfold txt; split
  · decide
  simpa using dgs_fit hb ha
theorem Znu (d : Bool × List Nat) (hd : U32 d.2) (base : Int) (up : Bool) : PC C Zfc [intA d.1 d.2, .int .i64 base, .bool up] (fun o => o = .ret (.tup [.str (bytesOf (textR d base up).1), .int .i64 (textR d base up).2])) := by
  refine PC.rn Zd7 Ziw Zix (rs := [.tmp 6, .tmp 7]) (by rw [Ziy]) ?_
  refine ARun.seq (ARun.region ?_); refine xb ?_; refine xa ?_; refine xa ?_; refine AOps.nil (ARun.seq (ARun.seq (ARun.region ?_))); refine xL ?_
  refine xc rfl rfl (Zip d) ?_
  refine xn ?_; refine xm ?_
  refine AOps.bool 12 rfl (fun h1 => ?_) (fun h1 => ?_)
  · skip
    have h1 : okI d = false := by simpa using h1
    refine xk ?_; refine xk ?_; refine xp ?_; refine xm ?_; refine xk ?_; refine xk ?_; refine xp ?_; refine AOps.nil ?_
    refine ARun.condT rfl ?_
    refine ARun.seq (ARun.region ?_); refine xa ?_; refine xa ?_; refine AOps.nil ?_
    refine ARun.ret ?_
    refine ⟨_, _, _, .tmp rfl (.tmp rfl .nil), .cons (.same _) (.cons (.same _) .nil), rfl, ?_⟩
    unfold textR; rw [h1]; rfl
  have h1 : okI d = true := by simpa using h1
  obtain ⟨z, rfl, fz⟩ := okI_int hd h1
  refine xm ?_; refine xi ?_; refine xp ?_; refine xm ?_
  refine AOps.bool 16 rfl (fun h2 => ?_) (fun h2 => ?_)
  · skip
    have h2 := of_decide_eq_true h2
    refine xk ?_; refine xk ?_; refine xp ?_; refine AOps.nil ?_
    refine ARun.condT rfl ?_
    refine ARun.seq (ARun.region ?_); refine xa ?_; refine xa ?_; refine AOps.nil ?_
    refine ARun.ret ?_
    refine ⟨_, _, _, .tmp rfl (.tmp rfl .nil), .cons (.same _) (.cons (.same _) .nil), rfl, ?_⟩
    unfold textR; rw [h1, decide_eq_false (show ¬ 2 ≤ base by omega)]; rfl
  have h2 := of_decide_eq_false h2
  refine xm ?_; refine xi ?_; refine xp ?_; refine AOps.nil ?_
  refine ARun.cond rfl (fun h3 => ?_) (fun h3 => ?_)
  · skip
    have h3 := of_decide_eq_true h3
    refine ARun.seq (ARun.region ?_); refine xa ?_; refine xa ?_; refine AOps.nil ?_
    refine ARun.ret ?_
    refine ⟨_, _, _, .tmp rfl (.tmp rfl .nil), .cons (.same _) (.cons (.same _) .nil), rfl, ?_⟩
    unfold textR; rw [h1, decide_eq_true (show 2 ≤ base by omega), decide_eq_false (show ¬ base ≤ 36 by omega)]; rfl
  have h3 := of_decide_eq_false h3
  obtain ⟨b, rfl⟩ : ∃ b : Nat, base = b := ⟨base.toNat, by omega⟩
  have hb2 : 2 ≤ b := by omega
  have hb36 : b ≤ 36 := by omega
  have hR : textR (decide (z < 0), lim z.natAbs) (b : Int) up = (strZ b up z, 0) := by
    unfold textR; rw [h1, decide_eq_true (show (2 : Int) ≤ (b : Int) by omega), decide_eq_true (show (b : Int) ≤ 36 by omega), valI_int]; rfl
  rw [hR]
  have hlen := txt_len hb2 (a := z.natAbs) fz
  refine ARun.skip (ARun.seq (ARun.region ?_)); refine xf ?_; refine xl ?_; refine xm ?_
  refine xc rfl rfl (ZkT z.natAbs b fz hb2 hb36) ?_
  refine xa ?_; refine AOps.nil (ARun.seq (ARun.seq (ARun.region ?_))); refine xm ?_; refine AOps.nil ?_
  refine ARun.join (S := List Nat) (fun l : List Nat => [(25, .any), (26, .any), (8, .str (bytesOf l))]) (fun l : List Nat => l = (bif up then (txt b z.natAbs).map upN else txt b z.natAbs)) (fun run => ?_) ?_
  · skip
    refine ARun.cond rfl (fun h4 => ?_) (fun h4 => ?_)
    · skip
      refine ARun.region ?_; refine xm ?_
      refine xc rfl rfl (ZmJ (txt b z.natAbs) (txt_ascii hb2 hb36 _) (by omega)) ?_
      refine xa ?_; refine AOps.nil ?_
      exact ARun.ag (run ((txt b z.natAbs).map upN) ((by rw [h4]; rfl)))
    refine ARun.skip ?_
    exact ARun.ag (run ((txt b z.natAbs)) ((by rw [h4]; rfl)))
  rintro l hj
  try dsimp only at hj ⊢
  subst hj
  refine ARun.seq (ARun.seq (ARun.region ?_)); refine xf ?_; refine xl ?_; refine AOps.nil ?_
  refine ARun.join (S := List Nat) (fun l : List Nat => [(29, .any), (30, .any), (8, .str (bytesOf l))]) (fun l : List Nat => l = strZ b up z) (fun run => ?_) ?_
  · skip
    refine ARun.cond rfl (fun h5 => ?_) (fun h5 => ?_)
    · skip
      refine ARun.region ?_; refine xm ?_
      refine y_op rfl (ZlO rfl rfl (by rw [bytesOf_size]; show 1 + _ ≤ _; cases up <;> simp <;> omega)) ?_
      rw [show (⟨#[45]⟩ : ByteArray) ++ bytesOf (bif up then (txt b z.natAbs).map upN else txt b z.natAbs) = bytesOf (strZ b up z) by unfold strZ; rw [h5]; exact (bytesOf_append [45] _).symm]
      refine xa ?_; refine AOps.nil ?_
      exact ARun.ag (run ((strZ b up z)) (rfl))
    refine ARun.skip ?_
    exact ARun.ag (run ((bif up then (txt b z.natAbs).map upN else txt b z.natAbs)) ((by unfold strZ; rw [h5]; rfl)))
  rintro l hj
  try dsimp only at hj ⊢
  subst hj
  refine ARun.seq (ARun.region ?_); refine xm ?_; refine xa ?_; refine xa ?_; refine AOps.nil ?_
  refine ARun.ret ?_
  refine ⟨_, _, _, .tmp rfl (.tmp rfl .nil), .cons (.same _) (.cons (.same _) .nil), rfl, ?_⟩
  rfl
end Go.V
set_option maxHeartbeats 2000000
set_option synthInstance.maxSize 100000
set_option synthInstance.maxHeartbeats 2000000
namespace Go.V
open Go.RowKit Go.Proofs
theorem nts_snoc {k : IntKind} {xs : List Nat} {x : Nat} : nts k xs ++ [.int k (x : Int)] = nts k (xs ++ [x]) := by simp [nts]
theorem nts_length {k : IntKind} {xs : List Nat} : (nts k xs).length = xs.length := by simp [nts]
theorem sln_len {k : IntKind} {xs : List Nat} : D.sl (nts k xs).length (nts k xs) = sln k xs := by rw [nts_length]
theorem Zon (xs : List Nat) (hx : U32 xs) (i : Nat) : PC C ZlQ [sln .u32 xs, .int .i64 (i : Int)] (fun o => o = .ret (.int .u64 ((xs.getD i 0 : Nat) : Int))) := by
  refine PC.rn Zkd Znb Znc (rs := [.tmp 4]) (by rw [Znd]) ?_
  have hd := hx.get i
  refine ARun.seq (ARun.region ?_); refine xa ?_; refine AOps.nil (ARun.seq (ARun.seq (ARun.region ?_))); refine xm ?_; refine xm ?_; refine xN ?_; refine xi ?_; refine AOps.nil ?_
  refine ARun.ite rfl (fun h => ?_) (fun h => ?_)
  · skip
    refine ARun.seq (ARun.region ?_); refine xa ?_; refine AOps.nil ?_
    refine ARun.ret ?_
    refine ⟨_, _, _, .tmp rfl .nil, .cons (.same _) .nil, rfl, ?_⟩
    rw [getD_ge (by omega)]
    rfl
  refine ARun.skip (ARun.seq (ARun.region ?_)); refine xm ?_; refine xm ?_
  refine y_op rfl (Zaj (i := i) rfl rfl rfl rfl (by omega) (by omega) (nts_ne (by omega)) (drop_nat rfl)) ?_
  refine y_op rfl (q_load rfl rfl rfl (nts_load (i := i) (by omega))) ?_
  refine y_op rfl (q_conv rfl rfl rfl (nconv_u64 (by omega))) ?_
  refine xa ?_; refine AOps.nil ?_
  refine ARun.ret ?_
  refine ⟨_, _, _, .tmp rfl .nil, .cons (.same _) .nil, rfl, ?_⟩
  rfl
theorem ZaW (a i : Nat) : PC C ZlQ [numD a, .int .i64 (i : Int)] (fun o => o = .ret (.int .u64 ((dig a i : Nat) : Int))) :=
  (Zon (lim a) (U32_lim a) i).mono fun o ho => by rw [ho, lim_get]
theorem ZmK (xs : List Nat) : PC C Zlc [sln .u32 xs] (fun o => o = .ret (.bool (okB xs))) := by
  refine PC.rn Zfl Zj2 Zj3 (rs := [.tmp 2]) (by rw [Zj4]) ?_
  refine ARun.lenle 0 rfl (fun hlen => ?_)
  rw [maxLen_eq] at hlen
  refine ARun.seq (ARun.region ?_); refine xa ?_; refine AOps.nil (ARun.seq (ARun.region ?_)); refine xm ?_; refine xN ?_; refine xi ?_; refine xm ?_
  refine AOps.bool 6 rfl (fun h1 => ?_) (fun h1 => ?_)
  · skip
    replace h1 := of_decide_eq_true h1
    refine xm ?_; refine xN ?_; refine xi ?_; refine xm ?_
    refine AOps.bool 10 rfl (fun h2 => ?_) (fun h2 => ?_)
    · skip
      replace h2 : (xs.length : Int) = 0 := by simpa using h2
      refine xk ?_; refine xk ?_; refine xk ?_; refine xk ?_; refine xk ?_; refine xk ?_; refine xk ?_; refine xp ?_; refine xp ?_; refine xa ?_; refine AOps.nil ?_
      refine ARun.ret ?_
      refine ⟨_, _, _, .tmp rfl .nil, .cons (.same _) .nil, rfl, ?_⟩
      rw [okB_iff.2 (okNat_iff.2 ⟨by omega, .inl (by omega)⟩)]
      rfl
    replace h2 : ¬ (xs.length : Int) = 0 := by simpa using h2
    refine xm ?_; refine xm ?_; refine xN ?_
    refine y_op rfl (q_sub rfl rfl (nsub1_i64 (by omega) (by omega))) ?_
    refine y_op rfl (Zaj rfl rfl rfl rfl (by omega) (by omega) (nts_ne (by omega)) (drop_nat rfl)) ?_
    refine y_op rfl (q_load rfl rfl rfl (nts_load (by omega))) ?_
    refine xi ?_; refine xp ?_; refine xp ?_; refine xa ?_; refine AOps.nil ?_
    refine ARun.ret ?_
    refine ⟨_, _, _, .tmp rfl .nil, .cons (.same _) .nil, rfl, ?_⟩
    have e : okB xs = (((xs.getD (xs.length - 1) 0 : Nat) : Int) != 0) := by
      by_cases hz : xs.getD (xs.length - 1) 0 = 0
      · have : ¬ okNat xs := fun x => by
          rcases (okNat_iff.1 x).2 with y | y
          · omega
          exact y hz
        rw [okB_not.2 this, hz]
        rfl
      rw [okB_iff.2 (okNat_iff.2 ⟨by omega, .inr hz⟩)]
      have : ¬ ((xs.getD (xs.length - 1) 0 : Nat) : Int) = 0 := by omega
      simp only [bne, beq_eq_false_iff_ne.2 this, Bool.not_false]
    rw [e]
    rfl
  replace h1 := of_decide_eq_false h1
  refine xk ?_; refine xk ?_; refine xk ?_; refine xk ?_; refine xk ?_; refine xk ?_; refine xk ?_; refine xk ?_; refine xk ?_; refine xk ?_; refine xk ?_; refine xk ?_; refine xp ?_; refine xa ?_; refine AOps.nil ?_
  refine ARun.ret ?_
  refine ⟨_, _, _, .tmp rfl .nil, .cons (.same _) .nil, rfl, ?_⟩
  have : ¬ okNat xs := fun x => by have := x.1; omega
  rw [okB_not.2 this]
  rfl
theorem Zch (xs : List Nat) (hx : U32 xs) (hl : xs.length ≤ 35184372088832) : PC C Zb7 [sln .u32 xs] (fun o => o = .ret (numD (val xs))) := by
  refine PC.rn ZdU ZgW ZgX (rs := [.tmp 2]) (by rw [ZgY]) ?_
  refine ARun.seq (ARun.region ?_); refine xa ?_; refine AOps.nil (ARun.seq (ARun.region ?_)); refine xm ?_; refine xN ?_; refine xa ?_; refine AOps.nil (ARun.seq (ARun.block ?_))
  refine ARun.loopI (S := Nat) (fun n : Nat => [(6, .any), (7, .any), (8, .any), (9, .any), (10, .any), (11, .any), (12, .any), (13, .any), (14, .any), (15, .any), (16, .any), (17, .any), (3, .int .i64 (n : Int))]) (fun n : Nat => []) (fun n : Nat => n ≤ xs.length ∧ val (xs.take n) = val xs) (fun n : Nat => n) (xs.length) ?_ ?_ ?_ ?_
  · exact ⟨Nat.le_refl _, by rw [List.take_length]⟩
  · (repeat' first | exact envLe_nil | apply envLe_any | apply envLe_same)
  · rfl
  rintro n hinv ih
  obtain ⟨hn, hv⟩ := hinv
  refine ARun.seq (ARun.seq (ARun.region ?_)); refine xm ?_; refine xi ?_; refine xm ?_
  refine AOps.bool 8 rfl (fun h => ?_) (fun h => ?_)
  · skip
    replace h := of_decide_eq_true h
    obtain ⟨m, rfl⟩ : ∃ m, n = m + 1 := ⟨n - 1, by omega⟩
    refine xm ?_; refine xm ?_
    refine y_op rfl (q_sub rfl rfl (nsub1_i64 (by omega) (by omega))) ?_
    refine y_op rfl (Zaj (i := m) rfl rfl rfl rfl (by omega) (by omega) (nts_ne (by omega)) (drop_nat rfl)) ?_
    refine y_op rfl (q_load rfl rfl rfl (nts_load (i := m) (by omega))) ?_
    refine xi ?_; refine xp ?_; refine AOps.nil ?_
    refine ARun.ite rfl (fun h2 => ?_) (fun h2 => ?_)
    · skip
      refine ARun.skip (ARun.block (ARun.region ?_)); refine xm ?_
      refine y_op rfl (q_sub rfl rfl (nsub1_i64 (by omega) (by omega))) ?_
      refine xa ?_; refine AOps.nil (ARun.inBlock ?_)
      refine ARun.again (ih (m) ?_ ?_) ?_ ?_
      · exact ⟨by omega, by rw [← hv, List.take_add_one, val_append, show xs[m]? = some 0 by rw [List.getElem?_eq_getElem (by omega)]; have : xs.getD m 0 = 0 := (by omega); rw [List.getD_eq_getElem?_getD, List.getElem?_eq_getElem (by omega)] at this; exact congrArg some this]; simp [val]⟩
      · exact Nat.lt_succ_self _
      · (repeat' first | exact envLe_nil | apply envLe_any | apply envLe_same)
      rfl
    refine ARun.exit rfl ?_
    refine ARun.seq (ARun.region ?_)
    refine y_new rfl (Zai rfl rfl rfl rfl rfl rfl rfl rfl rfl rfl rfl (by decide) (by decide)) ?_
    refine xm ?_; refine xm ?_
    refine y_op rfl (Zcs (m := (xs.take (m + 1)).length) (ds := nts .u32 (xs.take (m + 1))) rfl rfl rfl rfl rfl (bnd_nat rfl rfl) (by omega) (by omega) (by simp) (by simp; omega) (by rw [nts_slice]; simp)) ?_
    refine y_new rfl (Zb2 rfl rfl (by decide) rfl rfl rfl rfl rfl rfl rfl rfl rfl rfl (by simp) (by simp; omega) (by rw [maxLen_eq]; simp; omega) rfl) ?_
    refine xa ?_; refine AOps.nil ?_
    have hc : Canon (xs.take (m + 1)) := .inr (by rw [List.length_take, Nat.min_eq_left (by omega), Nat.add_sub_cancel, List.getD_eq_getElem?_getD, List.getElem?_take, if_pos (by omega), ← List.getD_eq_getElem?_getD]; omega)
    refine ARun.ret ?_
    refine ⟨_, _, _, .tmp rfl .nil, .cons (.row rfl (pures_nts _)) .nil, rfl, ?_⟩
    rw [← hv, numD, lim_val (hx.take _) hc]
    show Out.ret (D.sl (0 + _) _) = _
    rw [Nat.zero_add]
    rfl
  replace h := of_decide_eq_false h
  have hn0 : n = 0 := by omega
  subst hn0
  refine xk ?_; refine xk ?_; refine xk ?_; refine xk ?_; refine xk ?_; refine xk ?_; refine xp ?_; refine AOps.nil ?_
  refine ARun.condF rfl ?_
  refine ARun.exit rfl ?_
  refine ARun.seq (ARun.region ?_)
  refine y_new rfl (Zai rfl rfl rfl rfl rfl rfl rfl rfl rfl rfl rfl (by decide) (by decide)) ?_
  refine xm ?_; refine xm ?_
  refine y_op rfl (Zcs (m := 0) (ds := nts .u32 []) rfl rfl rfl rfl rfl (bnd_int rfl (by omega)) (by omega) (by omega) (by simp) (by simp) (by rw [nts_slice]; simp)) ?_
  refine y_new rfl (Zb2 rfl rfl (by decide) rfl rfl rfl rfl rfl rfl rfl rfl rfl rfl (by simp) (by simp) (by rw [maxLen_eq]; simp) rfl) ?_
  refine xa ?_; refine AOps.nil ?_
  refine ARun.ret ?_
  refine ⟨_, _, _, .tmp rfl .nil, .cons (.row rfl (pures_nts _)) .nil, rfl, ?_⟩
  rw [← hv, List.take_zero, numD, val, lim_zero]
  rfl
theorem Zbq {xs : List Nat} {n : Nat} (hx : U32 xs) (hn : xs.length = n) (hl : n ≤ 35184372088832) : PC C Zb7 [.sl n (nts .u32 xs)] (fun o => o = .ret (numD (val xs))) := by
  subst hn; exact Zch xs hx hl
theorem Zju (n : Nat) (hn : n < 18446744073709551616) : PC C ZnP [.int .u64 (n : Int)] (fun o => o = .ret (numD n)) := by
  refine PC.rn Zj6 ZmZ Zm0 (rs := [.tmp 2]) (by rw [Zm1]) ?_
  have hu : U32 [n % 4294967296, n / 4294967296 % 4294967296] := U32.cons (Nat.mod_lt _ (by decide)) (U32.cons (Nat.mod_lt _ (by decide)) U32.nil)
  have hv : val [n % 4294967296, n / 4294967296 % 4294967296] = n := by
    simp only [val, B_eq]; omega
  refine ARun.seq (ARun.region ?_); refine xa ?_; refine AOps.nil (ARun.seq (ARun.region ?_)); refine xm ?_
  refine y_op rfl (q_conv rfl rfl rfl nconv_u32) ?_
  refine xm ?_
  refine y_op rfl (q_shr rfl rfl (by omega) nshr32) ?_
  refine y_op rfl (q_conv rfl rfl rfl nconv_u32) ?_
  refine y_new rfl (Zai rfl rfl rfl rfl rfl rfl rfl rfl rfl rfl rfl (by decide) (by decide)) ?_
  refine y_new rfl (n_call rfl rfl (.cons (.row rfl rfl) .nil) (Zbq (xs := [n % 4294967296, n / 4294967296 % 4294967296]) hu rfl (by decide)) rfl) ?_
  refine xa ?_; refine AOps.nil ?_
  refine ARun.ret ?_
  refine ⟨_, _, _, .tmp rfl .nil, .cons (.same _) .nil, rfl, ?_⟩
  rw [hv]
  rfl
theorem Znv (xs : List Nat) : PC C Zmf [sln .u32 xs] (fun o => o = .ret (.bool (decide (xs.length ≤ 1024)))) := by
  refine PC.rn ZgO Zlg Zlh (rs := [.tmp 2]) (by rw [Zli]) ?_
  refine ARun.seq (ARun.region ?_); refine xa ?_; refine AOps.nil (ARun.seq (ARun.region ?_)); refine xm ?_; refine xN ?_; refine xi ?_; refine xa ?_; refine AOps.nil ?_
  refine ARun.ret ?_
  refine ⟨_, _, _, .tmp rfl .nil, .cons (.same _) .nil, rfl, ?_⟩
  have : decide ((xs.length : Int) ≤ 1024) = decide (xs.length ≤ 1024) := by
    by_cases h : xs.length ≤ 1024
    · rw [decide_eq_true h, decide_eq_true (by omega)]
    rw [decide_eq_false h, decide_eq_false (by omega)]
  rw [← this]
  rfl
theorem Znw (xs ys : List Nat) : PC C Zl3 [sln .u32 xs, sln .u32 ys] (fun o => o = .ret (.bool (decide (xs = ys)))) := by
  refine PC.rn Zgw Zk3 Zk4 (rs := [.tmp 4]) (by rw [Zk5]) ?_
  refine ARun.lenle 0 rfl (fun hlen => ?_)
  rw [maxLen_eq] at hlen
  refine ARun.seq (ARun.region ?_); refine xa ?_; refine AOps.nil (ARun.seq (ARun.seq (ARun.region ?_))); refine xm ?_; refine xN ?_; refine xm ?_; refine xN ?_; refine xi ?_; refine AOps.nil ?_
  refine ARun.cond rfl (fun h => ?_) (fun h => ?_)
  · skip
    have hne : xs.length ≠ ys.length := by intro e; rw [e] at h; simp at h
    refine ARun.seq (ARun.region ?_); refine xa ?_; refine AOps.nil ?_
    refine ARun.ret ?_
    refine ⟨_, _, _, .tmp rfl .nil, .cons (.same _) .nil, rfl, ?_⟩
    rw [decide_eq_false (fun e => hne (by rw [e]))]
    rfl
  have hl : xs.length = ys.length := by have h : (xs.length : Int) = ys.length := by simpa using h
                                        omega
  refine ARun.skip (ARun.seq (ARun.seq (ARun.region ?_))); refine xa ?_; refine AOps.nil (ARun.block ?_)
  refine ARun.loopI (S := Nat) (fun i : Nat => [(4, .any), (11, .any), (12, .any), (13, .any), (14, .any), (15, .any), (16, .any), (17, .any), (18, .any), (19, .any), (20, .any), (21, .any), (22, .any), (23, .any), (24, .any), (25, .any), (5, .int .i64 (i : Int))]) (fun i : Nat => []) (fun i : Nat => i ≤ xs.length ∧ ∀ j, j < i → xs.getD j 0 = ys.getD j 0) (fun i : Nat => xs.length - i) (0) ?_ ?_ ?_ ?_
  · exact ⟨Nat.zero_le _, fun j h => absurd h (Nat.not_lt_zero _)⟩
  · (repeat' first | exact envLe_nil | apply envLe_any | apply envLe_same)
  · rfl
  rintro i hinv ih
  obtain ⟨hi, hs⟩ := hinv
  refine ARun.seq (ARun.seq (ARun.region ?_)); refine xm ?_; refine xm ?_; refine xN ?_; refine xi ?_; refine AOps.nil ?_
  refine ARun.ite rfl (fun h2 => ?_) (fun h2 => ?_)
  · skip
    refine ARun.skip (ARun.seq (ARun.block (ARun.seq ?_)))
    refine ARun.drawnP 9 (fun _ => False) mixC rfl rfl (by kernel_rfl) (fun _ _ h => h.elim) ?_
    refine .op rfl (q_move rfl) ?_
    refine .op rfl (q_move rfl) ?_
    refine .op rfl (Zaj (i := i) rfl rfl rfl rfl (by omega) (by omega) (nts_ne (by omega)) (drop_nat rfl)) ?_
    refine .op rfl (q_load rfl rfl rfl (nts_load (i := i) (by omega))) ?_
    refine .op rfl (q_move rfl) ?_
    refine .op rfl (q_move rfl) ?_
    refine .op rfl (Zaj (i := i) rfl rfl rfl rfl (by omega) (by omega) (nts_ne (by omega)) (drop_nat rfl)) ?_
    refine .op rfl (q_load rfl rfl rfl (nts_load (i := i) (by omega))) ?_
    refine .op rfl (q_int rfl rfl rfl) ?_
    refine .nil (fun hG => ?_)
    refine AOps.nil ?_
    refine ARun.cond rfl (fun h3 => ?_) (fun h3 => ?_)
    · skip
      refine ARun.seq (ARun.region ?_); refine xa ?_; refine AOps.nil ?_
      refine ARun.ret ?_
      refine ⟨_, _, _, .tmp rfl .nil, .cons (.same _) .nil, rfl, ?_⟩
      rw [decide_eq_false (fun e => by rw [e] at h3; simp at h3)]
      rfl
    have h3 : xs.getD i 0 = ys.getD i 0 := by
      have : ((xs.getD i 0 : Nat) : Int) = ((ys.getD i 0 : Nat) : Int) := by simpa using h3
      omega
    refine ARun.skip (ARun.inBlock (ARun.region ?_)); refine xm ?_
    refine y_op rfl (q_add rfl rfl (nadd1_i64 (by omega))) ?_
    refine xa ?_; refine AOps.nil ?_
    refine ARun.again (ih ((i + 1)) ?_ ?_) ?_ ?_
    · exact ⟨by omega, fun j hj => by rcases Nat.lt_succ_iff_lt_or_eq.1 hj with h | rfl; exact hs j h; exact h3⟩
    · omega
    · (repeat' first | exact envLe_nil | apply envLe_any | apply envLe_same)
    rfl
  have hie : i = xs.length := by omega
  refine ARun.exit rfl ?_
  refine ARun.seq (ARun.region ?_); refine xa ?_; refine AOps.nil ?_
  refine ARun.ret ?_
  refine ⟨_, _, _, .tmp rfl .nil, .cons (.same _) .nil, rfl, ?_⟩
  have : xs = ys := by
    apply List.ext_getElem?
    intro j
    by_cases hj : j < xs.length
    · have := hs j (by omega)
      rw [List.getD_eq_getElem?_getD, List.getD_eq_getElem?_getD, List.getElem?_eq_getElem hj, List.getElem?_eq_getElem (by omega)] at this
      rw [List.getElem?_eq_getElem hj, List.getElem?_eq_getElem (by omega)]
      exact congrArg some this
    rw [List.getElem?_eq_none (by omega), List.getElem?_eq_none (by omega)]
  rw [decide_eq_true this]
  rfl
end Go.V
set_option maxHeartbeats 2000000
set_option synthInstance.maxSize 100000
set_option synthInstance.maxHeartbeats 2000000
namespace Go.V
open Go.RowKit Go.Proofs
theorem ZnZ (a b : Nat) (hA : (lim a).length ≤ 1099511627776) (hB : (lim b).length ≤ 1099511627776) : PC C Zm7 [numD a, numD b] (fun o => o = .ret (.int .i64 (cmpI a b))) := by
  refine PC.rn Zig Zmt Zmu (rs := [.tmp 4]) (by rw [Zmv]) ?_
  refine ARun.seq (ARun.region ?_); refine xa ?_; refine AOps.nil (ARun.seq (ARun.seq (ARun.region ?_))); refine xm ?_; refine xN ?_; refine xm ?_; refine xN ?_
  refine y_op rfl (q_maxR rfl rfl nmax) ?_
  refine y_op rfl (q_sub rfl rfl (IntWalk.i64_in _ (by omega))) ?_
  refine xa ?_; refine AOps.nil (ARun.block ?_)
  refine ARun.loopI (S := Nat × Int) (fun σ : Nat × Int => [(4, .any), (12, .any), (13, .any), (14, .any), (15, .any), (16, .any), (17, .any), (18, .any), (19, .any), (20, .any), (21, .any), (22, .any), (23, .any), (24, .any), (25, .any), (26, .any), (27, .any), (28, .any), (29, .any), (5, .int .i64 σ.2)]) (fun σ : Nat × Int => []) (fun σ : Nat × Int => σ.2 = (σ.1 : Int) - 1 ∧ σ.1 ≤ max (lim a).length (lim b).length ∧ a / B ^ σ.1 = b / B ^ σ.1) (fun σ : Nat × Int => σ.1) ((max (lim a).length (lim b).length, ((max (lim a).length (lim b).length : Nat) : Int) - 1)) ?_ ?_ ?_ ?_
  · exact ⟨rfl, Nat.le_refl _, by dsimp only; rw [Nat.div_eq_of_lt (ln_le_iff.1 (Nat.le_max_left _ _)), Nat.div_eq_of_lt (ln_le_iff.1 (Nat.le_max_right _ _))]⟩
  · (repeat' first | exact envLe_nil | apply envLe_any | apply envLe_same)
  · rfl
  rintro ⟨i, t⟩ hinv ih
  dsimp only at hinv ih ⊢
  obtain ⟨ht, hi, hw⟩ := hinv
  refine ARun.seq (ARun.seq (ARun.region ?_)); refine xm ?_; refine xi ?_; refine AOps.nil ?_
  refine ARun.cond rfl (fun h => ?_) (fun h => ?_)
  · skip
    have h := of_decide_eq_true h
    obtain ⟨j, rfl⟩ : ∃ j, i = j + 1 := ⟨i - 1, by omega⟩
    obtain rfl : t = (j : Int) := by omega
    have ea := div_step a j
    have eb := div_step b j
    refine ARun.skip (ARun.seq (ARun.block (ARun.seq (ARun.seq (ARun.region ?_))))); refine xm ?_; refine xm ?_
    refine xc rfl rfl (ZaW a j) ?_
    refine xm ?_; refine xm ?_
    refine xc rfl rfl (ZaW b j) ?_
    refine xi ?_; refine AOps.nil ?_
    refine ARun.ite rfl (fun h3 => ?_) (fun h3 => ?_)
    · skip
      refine ARun.seq (ARun.region ?_); refine xa ?_; refine AOps.nil ?_
      refine ARun.ret ?_
      refine ⟨_, _, _, .tmp rfl .nil, .cons (.same _) .nil, rfl, ?_⟩
      have hlt : a < b := div_lt_of (k := B ^ j) (by rw [ea, eb, hw]; omega)
      rw [cmpI_lo hlt]; rfl
    refine ARun.skip (ARun.seq (ARun.region ?_)); refine xm ?_; refine xm ?_
    refine xc rfl rfl (ZaW a j) ?_
    refine xm ?_; refine xm ?_
    refine xc rfl rfl (ZaW b j) ?_
    refine xi ?_; refine AOps.nil ?_
    refine ARun.ite rfl (fun h4 => ?_) (fun h4 => ?_)
    · skip
      refine ARun.seq (ARun.region ?_); refine xa ?_; refine AOps.nil ?_
      refine ARun.ret ?_
      refine ⟨_, _, _, .tmp rfl .nil, .cons (.same _) .nil, rfl, ?_⟩
      have hlt : b < a := div_lt_of (k := B ^ j) (by rw [ea, eb, hw]; omega)
      rw [cmpI_hi hlt]; rfl
    refine ARun.skip (ARun.inBlock (ARun.region ?_)); refine xm ?_
    refine y_op rfl (q_sub rfl rfl (IntWalk.i64_in _ (by omega))) ?_
    refine xa ?_; refine AOps.nil ?_
    refine ARun.again (ih ((j, (j : Int) - 1)) ?_ ?_) ?_ ?_
    · exact ⟨rfl, by dsimp only; omega, by have : dig a j = dig b j := (by omega); dsimp only; rw [ea, eb, hw, this]⟩
    · exact Nat.lt_succ_self _
    · (repeat' first | exact envLe_nil | apply envLe_any | apply envLe_same)
    rfl
  have h := of_decide_eq_false h
  have hi0 : i = 0 := by omega
  subst hi0
  refine ARun.exit rfl ?_
  refine ARun.seq (ARun.region ?_); refine xa ?_; refine AOps.nil ?_
  refine ARun.ret ?_
  refine ⟨_, _, _, .tmp rfl .nil, .cons (.same _) .nil, rfl, ?_⟩
  rw [Nat.pow_zero, Nat.div_one, Nat.div_one] at hw
  rw [cmpI_eq hw]; rfl
theorem U32.snoc {xs : List Nat} {x : Nat} (h : U32 xs) (hx : x < 4294967296) : U32 (xs ++ [x]) := fun y hy => by
  rcases List.mem_append.1 hy with h1 | h1
  · exact h y h1
  rw [List.mem_singleton.1 h1]; exact hx
theorem addA_step {a b i c : Nat} {ys : List Nat} (hu : U32 ys) (hl : ys.length = i) (hc : c ≤ 1) (hv : val ys + B ^ i * c = a % B ^ i + b % B ^ i) :
    U32 (ys ++ [(dig a i + dig b i + c) % 4294967296]) ∧ (ys ++ [(dig a i + dig b i + c) % 4294967296]).length = i + 1 ∧ (dig a i + dig b i + c) / 4294967296 ≤ 1 ∧
      val (ys ++ [(dig a i + dig b i + c) % 4294967296]) + B ^ (i + 1) * ((dig a i + dig b i + c) / 4294967296) = a % B ^ (i + 1) + b % B ^ (i + 1) := by
  have d1 := dig_lt a i
  have d2 := dig_lt b i
  refine ⟨hu.snoc (Nat.mod_lt _ (by decide)), by simp [hl], by omega, ?_⟩
  rw [val_append, hl, mod_succ, mod_succ, Nat.pow_succ, Nat.mul_assoc]
  generalize hs : dig a i + dig b i + c = s
  have h1 : B ^ i * (s % 4294967296) + B ^ i * (B * (s / 4294967296)) = B ^ i * s := by
    rw [← Nat.mul_add]; congr 1; exact Nat.mod_add_div s B
  have h2 : B ^ i * s = B ^ i * c + (B ^ i * dig a i + B ^ i * dig b i) := by rw [← hs, Nat.mul_add, Nat.mul_add]; omega
  simp only [val, Nat.mul_zero, Nat.add_zero]
  omega
theorem addA_end {a b c n : Nat} {ys : List Nat} (hl : ys.length = n) (ha : (lim a).length < n) (hb : (lim b).length < n) (hu : U32 ys) (hv : val ys + B ^ n * c = a % B ^ n + b % B ^ n) : val ys = a + b :=
  add_end hl ha hb hu (by rw [List.take_of_length_le (by omega)]; exact hv)
theorem ZlV (a b : Nat) (ha : (lim a).length ≤ 1099511627) (hb : (lim b).length ≤ 1099511627) : PC C Zj5 [numD a, numD b] (fun o => o = .ret (numD (a + b))) := by
  refine PC.rn Zh6 Zl5 Zl6 (rs := [.tmp 4]) (by rw [Zl7]) ?_
  refine ARun.seq (ARun.region ?_); refine xa ?_; refine AOps.nil (ARun.seq (ARun.region ?_)); refine xa ?_; refine AOps.nil (ARun.seq (ARun.region ?_)); refine xa ?_; refine AOps.nil (ARun.seq (ARun.seq (ARun.region ?_))); refine xa ?_; refine AOps.nil (ARun.block ?_)
  refine ARun.loopI (S := Nat × Nat × List Nat × Heap) (fun σ : Nat × Nat × List Nat × Heap => [(8, .any), (9, .any), (10, .any), (11, .any), (12, .any), (13, .any), (14, .any), (15, .any), (16, .any), (17, .any), (18, .any), (19, .any), (20, .any), (21, .any), (22, .any), (23, .any), (24, .any), (25, .any), (26, .any), (27, .any), (28, .any), (29, .any), (30, .any), (31, .any), (32, .any), (33, .any), (5, growD (0 + σ.2.2.2.length) (nts .u32 σ.2.2.1)), (6, .int .u64 (σ.2.1 : Int)), (7, .int .i64 (σ.1 : Int))]) (fun σ : Nat × Nat × List Nat × Heap => growT σ.2.2.2 Zae (nts .u32 σ.2.2.1)) (fun σ : Nat × Nat × List Nat × Heap => U32 σ.2.2.1 ∧ σ.2.2.1.length = σ.1 ∧ σ.1 ≤ max ((lim a).length) ((lim b).length) + 1 ∧ σ.2.1 ≤ 1 ∧ val σ.2.2.1 + B ^ σ.1 * σ.2.1 = a % B ^ σ.1 + b % B ^ σ.1) (fun σ : Nat × Nat × List Nat × Heap => max ((lim a).length) ((lim b).length) + 1 - σ.1) ((0, 0, [], [])) ?_ ?_ ?_ ?_
  · exact ⟨U32.nil, rfl, Nat.zero_le _, by simp, by simp [val, Nat.mod_one]⟩
  · (repeat' first | exact envLe_nil | apply envLe_any | apply envLe_same)
  · rfl
  rintro ⟨i, c, ys, J⟩ hinv ih
  dsimp only at hinv ih ⊢
  obtain ⟨hu, hl, hi, hc, hv⟩ := hinv
  have hbl : (nts .u32 ys).length = i := by rw [nts_length, hl]
  refine ARun.seq (ARun.seq (ARun.region ?_)); refine xm ?_; refine xm ?_; refine xN ?_; refine xm ?_; refine xN ?_
  refine y_op rfl (q_maxR rfl rfl nmax) ?_
  refine xi ?_; refine AOps.nil ?_
  refine ARun.ite rfl (fun h => ?_) (fun h => ?_)
  · skip
    have d1 := dig_lt a i
    have d2 := dig_lt b i
    refine ARun.skip (ARun.seq (ARun.block (ARun.seq (ARun.region ?_)))); refine xm ?_; refine xm ?_
    refine xc rfl rfl (ZaW a i) ?_
    refine xm ?_; refine xm ?_
    refine xc rfl rfl (ZaW b i) ?_
    refine y_op rfl (q_add rfl rfl (nadd_u64 (by omega))) ?_
    refine xm ?_
    refine y_op rfl (q_add rfl rfl (nadd_u64 (by omega))) ?_
    refine xa ?_; refine AOps.nil (ARun.seq (ARun.region ?_)); refine xm ?_; refine xm ?_
    refine y_op rfl (q_conv rfl rfl rfl nconv_u32) ?_
    refine y_new rfl (Zai rfl rfl rfl rfl rfl rfl rfl rfl rfl rfl rfl (by decide) (by decide)) ?_
    refine y_grow rfl rfl rfl rfl rfl rfl rfl rfl rfl rfl (by show (_ + 1) * 4 ≤ _; omega) (by omega) (fun J' => ?_)
    rw [nts_snoc]
    refine xa ?_; refine AOps.nil (ARun.region ?_); refine xm ?_
    refine y_op rfl (q_shr rfl rfl (by omega) nshr32) ?_
    refine xa ?_; refine AOps.nil (ARun.inBlock (ARun.region ?_)); refine xm ?_
    refine y_op rfl (q_add rfl rfl (nadd1_i64 (by omega))) ?_
    refine xa ?_; refine AOps.nil ?_
    refine ARun.again (ih ((i + 1, (dig a i + dig b i + c) / 4294967296, ys ++ [(dig a i + dig b i + c) % 4294967296], J')) ?_ ?_) ?_ ?_
    · (obtain ⟨k1, k2, k3, k4⟩ := addA_step hu hl hc hv; exact ⟨k1, k2, by dsimp only; omega, k3, k4⟩)
    · (dsimp only; omega)
    · (repeat' first | exact envLe_nil | apply envLe_any | apply envLe_same)
    rfl
  have hin : i = max (lim a).length (lim b).length + 1 := by omega
  refine ARun.growEnd 5 rfl (pures_nts _) (fun J' => ?_)
  rw [sln_len]
  refine ARun.exit rfl ?_
  refine ARun.seq (ARun.region ?_); refine xm ?_
  refine xc rfl rfl (Zch ys hu (by omega)) ?_
  refine xa ?_; refine AOps.nil ?_
  refine ARun.ret ?_
  refine ⟨_, _, _, .tmp rfl .nil, .cons (.same _) .nil, rfl, ?_⟩
  rw [addA_end hl (by omega) (by omega) hu hv]
  rfl
theorem Zn0 (a b : Nat) (ha : (lim a).length ≤ 1099511627) (hb : (lim b).length ≤ 1099511627) : PC C Zm5 [numD a, numD b] (fun o => o = .ret (numD (a * b))) := by
  refine PC.rn Zie Zmn Zmo (rs := [.tmp 4]) (by rw [Zmp]) ?_
  refine ARun.seq (ARun.region ?_); refine xa ?_; refine AOps.nil (ARun.seq (ARun.region ?_)); refine xm ?_; refine xN ?_; refine xm ?_; refine xN ?_
  refine y_op rfl (q_add rfl rfl (nadd_i64 (by omega))) ?_
  refine y_new rfl (Zas rfl rfl rfl rfl rfl rfl rfl (by omega) (by rw [maxLen_eq]; omega) (zeros_nts _)) ?_
  refine xa ?_; refine AOps.nil (ARun.seq (ARun.seq (ARun.region ?_))); refine xa ?_; refine AOps.nil (ARun.block ?_)
  refine ARun.loopI (S := Nat × List Nat) (fun σ : Nat × List Nat => [(7, .any), (8, .any), (9, .any), (16, .any), (17, .any), (18, .any), (19, .any), (20, .any), (21, .any), (22, .any), (23, .any), (24, .any), (25, .any), (26, .any), (27, .any), (28, .any), (29, .any), (30, .any), (31, .any), (32, .any), (33, .any), (34, .any), (35, .any), (36, .any), (37, .any), (38, .any), (39, .any), (40, .any), (41, .any), (42, .any), (43, .any), (44, .any), (45, .any), (46, .any), (47, .any), (48, .any), (49, .any), (50, .any), (51, .any), (52, .any), (53, .any), (54, .any), (55, .any), (56, .any), (57, .any), (58, .any), (59, .any), (60, .any), (61, .any), (62, .any), (63, .any), (64, .any), (65, .any), (6, .int .i64 (σ.1 : Int))]) (fun σ : Nat × List Nat => [some ⟨nts .u32 σ.2, Zae, 1, true, none⟩]) (fun σ : Nat × List Nat => U32 σ.2 ∧ σ.2.length = (lim a).length + (lim b).length ∧ σ.1 ≤ (lim a).length ∧ val (σ.2.take (σ.1 + (lim b).length)) = a % B ^ σ.1 * b) (fun σ : Nat × List Nat => (lim a).length - σ.1) ((0, List.replicate ((lim a).length + (lim b).length) 0)) ?_ ?_ ?_ ?_
  · exact ⟨U32.replicate, by simp, by simp, by simp [val_replicate, Nat.mod_one]⟩
  · (repeat' first | exact envLe_nil | apply envLe_any | apply envLe_same)
  · rfl
  rintro ⟨i, ys⟩ hinv ih
  dsimp only at hinv ih ⊢
  obtain ⟨hu, hl, hi, hv⟩ := hinv
  refine ARun.seq (ARun.seq (ARun.region ?_)); refine xm ?_; refine xm ?_; refine xN ?_; refine xi ?_; refine AOps.nil ?_
  refine ARun.ite rfl (fun h => ?_) (fun h => ?_)
  · skip
    have d1 := dig_lt a i
    refine ARun.skip (ARun.seq (ARun.block (ARun.seq (ARun.region ?_)))); refine xa ?_; refine AOps.nil (ARun.seq (ARun.seq (ARun.region ?_))); refine xa ?_; refine AOps.nil (ARun.block ?_)
    refine ARun.loopI (S := Nat × Nat × List Nat) (fun σ : Nat × Nat × List Nat => [(9, .any), (22, .any), (23, .any), (24, .any), (25, .any), (26, .any), (27, .any), (28, .any), (29, .any), (30, .any), (31, .any), (32, .any), (33, .any), (34, .any), (35, .any), (36, .any), (37, .any), (38, .any), (39, .any), (40, .any), (41, .any), (42, .any), (43, .any), (44, .any), (45, .any), (46, .any), (47, .any), (48, .any), (49, .any), (50, .any), (51, .any), (52, .any), (53, .any), (54, .any), (55, .any), (56, .any), (57, .any), (8, .int .i64 (σ.1 : Int)), (7, .int .u64 (σ.2.1 : Int))]) (fun σ : Nat × Nat × List Nat => [some ⟨nts .u32 σ.2.2, Zae, 1, true, none⟩]) (fun σ : Nat × Nat × List Nat => U32 σ.2.2 ∧ σ.2.2.length = (lim a).length + (lim b).length ∧ σ.1 ≤ (lim b).length ∧ σ.2.1 < 4294967296 ∧ (∀ p, i + σ.1 ≤ p → p < i + (lim b).length → σ.2.2.getD p 0 = dig (a % B ^ i * b) p) ∧ val (σ.2.2.take (i + σ.1)) + B ^ (i + σ.1) * σ.2.1 = (a % B ^ i * b) % B ^ (i + σ.1) + B ^ i * (dig a i * (b % B ^ σ.1))) (fun σ : Nat × Nat × List Nat => (lim b).length - σ.1) ((0, 0, ys)) ?_ ?_ ?_ ?_
    · exact ⟨hu, hl, by simp, by simp, fun p _ hp => sch_dig hu hv hp, by dsimp only; rw [Nat.add_zero, Nat.mul_zero, Nat.add_zero, Nat.pow_zero, Nat.mod_one, Nat.mul_zero, Nat.mul_zero, Nat.add_zero, ← hv]; exact val_take_mod hu _ _ (by omega)⟩
    · (repeat' first | exact envLe_nil | apply envLe_any | apply envLe_same)
    · rfl
    rintro ⟨j, c, zs⟩ hinv2 ih2
    dsimp only at hinv2 ih2 ⊢
    obtain ⟨hu2, hl2, hj, hc, hd, hv2⟩ := hinv2
    refine ARun.seq (ARun.seq (ARun.region ?_)); refine xm ?_; refine xm ?_; refine xN ?_; refine xi ?_; refine AOps.nil ?_
    refine ARun.ite rfl (fun h2 => ?_) (fun h2 => ?_)
    · skip
      have d2 := mul_bound d1 (dig_lt b j)
      have d3 := dig_lt b j
      have d4 := hu2.get (i + j)
      have d5 := hd (i + j) (by omega) (by omega)
      have d6 := dig_lt (a % B ^ i * b) (i + j)
      have es : dig a i * dig b j + dig (a % B ^ i * b) (i + j) + c = c + (dig a i * dig b j + dig (a % B ^ i * b) (i + j)) := by omega
      refine ARun.skip (ARun.seq (ARun.block (ARun.seq ?_)))
      refine ARun.drawnP 21 (fun _ => False) mixC rfl rfl (by kernel_rfl) (fun _ _ h => h.elim) ?_
      refine .op rfl (q_move rfl) ?_
      refine .op rfl (q_move rfl) ?_
      refine .op rfl (Zaj rfl rfl rfl rfl (by omega) (by omega) (nts_ne (by omega)) (drop_nat rfl)) ?_
      refine .op rfl (q_load rfl rfl rfl (lim_load (by omega))) ?_
      refine .op rfl (q_conv rfl rfl rfl (nconv_u64 (by omega))) ?_
      refine .op rfl (q_move rfl) ?_
      refine .op rfl (q_move rfl) ?_
      refine .op rfl (Zaj rfl rfl rfl rfl (by omega) (by omega) (nts_ne (by omega)) (drop_nat rfl)) ?_
      refine .op rfl (q_load rfl rfl rfl (lim_load (by omega))) ?_
      refine .op rfl (q_conv rfl rfl rfl (nconv_u64 (by omega))) ?_
      refine .op rfl (q_mul rfl rfl (nmul_u64 (by omega))) ?_
      refine .op rfl (q_move rfl) ?_
      refine .op rfl (q_move rfl) ?_
      refine .op rfl (q_move rfl) ?_
      refine .op rfl (q_add rfl rfl (nadd_i64 (by omega))) ?_
      refine .op rfl (Zah rfl rfl rfl rfl rfl (by omega) (by omega) (idx_nat rfl)) ?_
      refine .op rfl (Zac rfl rfl rfl rfl ((nts_get (by omega)).trans (by rw [d5]))) ?_
      refine .op rfl (q_conv rfl rfl rfl (nconv_u64 (by omega))) ?_
      refine .op rfl (q_add rfl rfl (nadd_u64 (by omega))) ?_
      refine .op rfl (q_move rfl) ?_
      refine .op rfl (q_add rfl rfl (nadd_u64 (by omega))) ?_
      refine .nil (fun hG => ?_)
      refine xa ?_
      rw [es]
      refine AOps.nil (ARun.seq (ARun.region ?_)); refine xm ?_; refine xm ?_; refine xm ?_
      refine y_op rfl (q_add rfl rfl (nadd_i64 (by omega))) ?_
      refine xm ?_
      refine y_op rfl (q_conv rfl rfl rfl nconv_u32) ?_
      refine y_op rfl (Zah rfl rfl rfl rfl rfl (by omega) (by omega) (idx_nat rfl)) ?_
      refine y_new rfl (Zad rfl rfl rfl rfl rfl rfl (by simp; omega) nts_set) ?_
      refine AOps.nil (ARun.region ?_); refine xm ?_
      refine y_op rfl (q_shr rfl rfl (by omega) nshr32) ?_
      refine xa ?_; refine AOps.nil (ARun.inBlock (ARun.region ?_)); refine xm ?_
      refine y_op rfl (q_add rfl rfl (nadd1_i64 (by omega))) ?_
      refine xa ?_; refine AOps.nil ?_
      refine ARun.again (ih2 ((j + 1, (c + (dig a i * dig b j + dig (a % B ^ i * b) (i + j))) / 4294967296, zs.set (i + j) ((c + (dig a i * dig b j + dig (a % B ^ i * b) (i + j))) % 4294967296))) ?_ ?_) ?_ ?_
      · (obtain ⟨k1, k2, k3, k4⟩ := sch_step (b := b) hu2 hl2 (by omega) d1 hc d5 hv2; exact ⟨k1, k2, by dsimp only; omega, k3, fun p hp hp2 => by rw [getD_set_ne (by omega)]; exact hd p (by omega) hp2, k4⟩)
      · (dsimp only; omega)
      · (repeat' first | exact envLe_nil | apply envLe_any | apply envLe_same)
      rfl
    have hjn : j = (lim b).length := by omega
    subst hjn
    refine ARun.exit rfl ?_
    refine ARun.region ?_; refine xm ?_; refine xm ?_; refine xm ?_; refine xN ?_
    refine y_op rfl (q_add rfl rfl (nadd_i64 (by omega))) ?_
    refine xm ?_
    refine y_op rfl (q_conv rfl rfl rfl (IntWalk.u32_in _ (by omega))) ?_
    refine y_op rfl (Zah rfl rfl rfl rfl rfl (by omega) (by omega) (idx_nat rfl)) ?_
    refine y_new rfl (Zad rfl rfl rfl rfl rfl rfl (by simp; omega) nts_set) ?_
    refine AOps.nil (ARun.inBlock (ARun.region ?_)); refine xm ?_
    refine y_op rfl (q_add rfl rfl (nadd1_i64 (by omega))) ?_
    refine xa ?_; refine AOps.nil ?_
    refine ARun.again (ih ((i + 1, zs.set (i + (lim b).length) c)) ?_ ?_) ?_ ?_
    · (obtain ⟨k1, k2, k3⟩ := sch_row hu2 hl2 (by omega) hc rfl hv2; exact ⟨k1, k2, by dsimp only; omega, k3⟩)
    · (dsimp only; omega)
    · (repeat' first | exact envLe_nil | apply envLe_any | apply envLe_same)
    rfl
  have hin : i = (lim a).length := by omega
  subst hin
  refine ARun.exit rfl ?_
  refine ARun.seq (ARun.region ?_); refine xm ?_
  refine y_new rfl (n_call rfl rfl (.cons (.row rfl (pures_nts _)) .nil) (Zbq hu hl (by omega)) rfl) ?_
  refine xa ?_; refine AOps.nil ?_
  refine ARun.ret ?_
  refine ⟨_, _, _, .tmp rfl .nil, .cons (.same _) .nil, rfl, ?_⟩
  rw [List.take_of_length_le (by omega), mod_of_ln (Nat.le_refl _)] at hv
  rw [hv]
  rfl
end Go.V
set_option maxHeartbeats 2000000
set_option synthInstance.maxSize 100000
set_option synthInstance.maxHeartbeats 2000000
namespace Go.V
open Go.RowKit Go.Proofs
theorem Zn1 (b : Bool) (xs : List Nat) (hx : U32 xs) (hl : xs.length ≤ 35184372088832) : PC C ZlP [.bool b, sln .u32 xs] (fun o => o = .ret (.agg [.bool (b && decide (0 < xs.length)), numD (val xs)])) := by
  refine PC.rn ZjR ZmW ZmX (rs := [.cell 4 25]) (by rw [ZmY]) ?_
  refine ARun.seq (ARun.region ?_)
  refine y_new rfl (Zag rfl rfl rfl rfl) ?_
  refine AOps.nil (ARun.seq (ARun.region ?_)); refine xm ?_; refine xm ?_
  refine AOps.bool 6 rfl (fun h => ?_) (fun h => ?_)
  · skip
    refine xm ?_; refine xN ?_; refine xi ?_; refine xp ?_; refine xm ?_
    refine xc rfl rfl (Zch xs hx hl) ?_
    refine y_op rfl (Zal rfl rfl rfl rfl rfl) ?_
    refine y_new rfl (Zaa rfl rfl rfl rfl rfl rfl rfl rfl (Nat.le_of_ble_eq_true rfl) rfl) ?_
    refine AOps.nil ?_
    refine ARun.ret ?_
    refine ⟨_, _, _, ResR.cellA rfl rfl rfl rfl rfl rfl .nil, .cons (.same _) .nil, rfl, ?_⟩
    have : decide ((xs.length : Int) > 0) = decide (0 < xs.length) := decide_eq_decide.2 (by omega)
    rw [h, ← this]; rfl
  refine xk ?_; refine xk ?_; refine xk ?_; refine xp ?_; refine xm ?_
  refine xc rfl rfl (Zch xs hx hl) ?_
  refine y_op rfl (Zal rfl rfl rfl rfl rfl) ?_
  refine y_new rfl (Zaa rfl rfl rfl rfl rfl rfl rfl rfl (Nat.le_of_ble_eq_true rfl) rfl) ?_
  refine AOps.nil ?_
  refine ARun.ret ?_
  refine ⟨_, _, _, ResR.cellA rfl rfl rfl rfl rfl rfl .nil, .cons (.same _) .nil, rfl, ?_⟩
  rw [h]; rfl
theorem Zjv (b : Bool) (n : Nat) (hl : (lim n).length ≤ 35184372088832) : PC C ZlP [.bool b, numD n] (fun o => o = .ret (intD (sgnd b n))) :=
  (Zn1 b (lim n) (U32_lim n) hl).mono fun o ho => by
    rw [ho, val_lim, intD, sgnd_abs, sgnd_neg]
    have : decide (0 < (lim n).length) = decide (0 < n) := decide_eq_decide.2 (by rw [ln_pos]; omega)
    rw [this]
theorem decEqZ (x y : Int) : ((decide (x < 0) == decide (y < 0)) && decide (lim x.natAbs = lim y.natAbs)) = decide (x = y) := by
  have hl : lim x.natAbs = lim y.natAbs ↔ x.natAbs = y.natAbs := ⟨fun h => by rw [← val_lim x.natAbs, h, val_lim], fun h => by rw [h]⟩
  by_cases h : x = y
  · subst h; simp
  rw [decide_eq_false h]
  by_cases h1 : x < 0 <;> by_cases h2 : y < 0
  · rw [show decide (lim x.natAbs = lim y.natAbs) = false from decide_eq_false (by rw [hl]; omega)]; simp
  · rw [decide_eq_true h1, decide_eq_false h2]; rfl
  · rw [decide_eq_false h1, decide_eq_true h2]; rfl
  rw [show decide (lim x.natAbs = lim y.natAbs) = false from decide_eq_false (by rw [hl]; omega)]; simp
theorem ZkU (x y : Int) : PC C ZeE [intD x, intD y] (fun o => o = .ret (.bool (decide (x = y)))) := by
  refine PC.rn Zgi Zk0 Zk1 (rs := [.tmp 4]) (by rw [Zk2]) ?_
  refine ARun.seq (ARun.region ?_); refine xb ?_; refine xb ?_; refine xa ?_; refine AOps.nil (ARun.seq (ARun.region ?_)); refine xf ?_; refine xl ?_; refine xf ?_; refine xl ?_
  refine y_op rfl (Zjp rfl rfl rfl) ?_
  refine xm ?_
  refine AOps.bool 10 rfl (fun h => ?_) (fun h => ?_)
  · skip
    refine xf ?_; refine xl ?_; refine xf ?_; refine xl ?_
    refine xc rfl rfl (Znw (lim x.natAbs) (lim y.natAbs)) ?_
    refine xp ?_; refine xa ?_; refine AOps.nil ?_
    refine ARun.ret ?_
    refine ⟨_, _, _, .tmp rfl .nil, .cons (.same _) .nil, rfl, ?_⟩
    rw [← decEqZ, h]; rfl
  refine xk ?_; refine xk ?_; refine xk ?_; refine xk ?_; refine xk ?_; refine xp ?_; refine xa ?_; refine AOps.nil ?_
  refine ARun.ret ?_
  refine ⟨_, _, _, .tmp rfl .nil, .cons (.same _) .nil, rfl, ?_⟩
  rw [← decEqZ, h]; rfl
theorem Zbz (z : Int) (h1 : -9223372036854775808 ≤ z) (h2 : z ≤ 9223372036854775807) : PC C Ziv [.int .i64 z] (fun o => o = .ret (intD z)) := by
  have hln : ∀ n : Nat, n < 18446744073709551616 → (lim n).length ≤ 2 := fun n h => ln_le (by rw [B_two]; exact h)
  refine PC.rn ZdC Zhr Zhs (rs := [.cell 2 25]) (by rw [Zht]) ?_
  refine ARun.seq (ARun.region ?_)
  refine y_new rfl (Zag rfl rfl rfl rfl) ?_
  refine AOps.nil (ARun.seq (ARun.seq (ARun.region ?_))); refine xm ?_; refine xi ?_; refine AOps.nil ?_
  refine ARun.ite rfl (fun h => ?_) (fun h => ?_)
  · skip
    obtain ⟨m, hm⟩ : ∃ m : Nat, z = -(m : Int) - 1 := ⟨(-(z + 1)).toNat, by omega⟩
    subst hm
    have hadd : PC C Zj5 [numD m, .sl 1 [.int .u32 1]] (fun o => o = .ret (numD (m + 1))) := by
      have := hln m (by omega)
      have h := ZlV m 1 (by omega) (by rw [lim_one]; decide)
      rw [← numD_one] at h
      exact h
    refine ARun.seq (ARun.region ?_); refine xm ?_
    refine y_op rfl (q_add rfl rfl (show _ = -(m : Int) by rw [IntWalk.i64_in _ (by omega)]; omega)) ?_
    refine y_op rfl (q_neg rfl (show _ = (m : Int) by rw [IntWalk.i64_in _ (by omega)]; omega)) ?_
    refine y_op rfl (q_conv rfl rfl rfl (IntWalk.u64_in _ (by omega))) ?_
    refine xc rfl rfl (Zju m (by omega)) ?_
    refine y_op rfl (ZaB rfl rfl rfl rfl rfl rfl rfl rfl rfl rfl rfl (by decide) (by decide) rfl) ?_
    refine xc rfl rfl (hadd) ?_
    refine xc rfl rfl (Zjv true (m + 1) (by have := hln (m + 1) (by omega); omega)) ?_
    refine y_new rfl (Zaa rfl rfl rfl rfl rfl rfl rfl rfl (Nat.le_of_ble_eq_true rfl) rfl) ?_
    refine AOps.nil ?_
    refine ARun.ret ?_
    refine ⟨_, _, _, ResR.cellA rfl rfl rfl rfl rfl rfl .nil, .cons (.same _) .nil, rfl, ?_⟩
    rw [show sgnd true (m + 1) = -(m : Int) - 1 by simp only [sgnd, cond_true]; omega]
    rfl
  obtain ⟨m, rfl⟩ : ∃ m : Nat, z = (m : Int) := ⟨z.toNat, by omega⟩
  refine ARun.skip (ARun.seq (ARun.region ?_)); refine xm ?_
  refine y_op rfl (q_conv rfl rfl rfl (IntWalk.u64_in _ (by omega))) ?_
  refine xc rfl rfl (Zju m (by omega)) ?_
  refine xc rfl rfl (Zjv false m (by have := hln m (by omega); omega)) ?_
  refine y_new rfl (Zaa rfl rfl rfl rfl rfl rfl rfl rfl (Nat.le_of_ble_eq_true rfl) rfl) ?_
  refine AOps.nil ?_
  refine ARun.ret ?_
  refine ⟨_, _, _, ResR.cellA rfl rfl rfl rfl rfl rfl .nil, .cons (.same _) .nil, rfl, ?_⟩
  rfl
end Go.V
set_option maxHeartbeats 2000000
set_option synthInstance.maxSize 100000
set_option synthInstance.maxHeartbeats 2000000
namespace Go.V
open Go.RowKit Go.Proofs
end Go.V
set_option maxHeartbeats 4000000
set_option synthInstance.maxSize 100000
set_option synthInstance.maxHeartbeats 2000000
namespace Go.V
open Go.RowKit Go.Proofs
theorem fit_lt {z : Int} (h : z.natAbs < 4294967296) : fitZ z := by
  unfold fitZ
  have := ln_le (n := z.natAbs) (k := 1) (by rw [Nat.pow_one]; exact h)
  omega
theorem okI_of {z : Int} (h : fitZ z) : okI (decide (z < 0), lim z.natAbs) = true := by
  unfold okI
  rw [okB_lim h, Bool.true_and]
  by_cases h0 : z < 0
  · have := ln_pos.2 (show z.natAbs ≠ 0 by omega)
    rw [decide_eq_true (show 0 < (lim z.natAbs).length from this), Bool.or_true]
  rw [decide_eq_false h0]; rfl
theorem okI_of2 {x y : Int} (hx : fitZ x) (hy : fitZ y) : [(decide (x < 0), lim x.natAbs), (decide (y < 0), lim y.natAbs)].all okI = true := by
  simp only [List.all_cons, List.all_nil, Bool.and_true, okI_of hx, okI_of hy]
theorem gcd_12_18 : gG 12 18 = 6 ∧ gcdX 12 18 = 2 ∧ gcdY 12 18 = -1 := by
  have h0 : (18 : Int) ≠ 0 := by decide
  have h1 : gG 12 18 = 6 := by decide
  have h2 := gcd_eq (a := 12) h0
  have h3 := gQ_mul (a := 12) h0
  rw [h1] at h2 h3
  have h4 : gQ 12 18 = 3 := by
    have : (18 : Int).natAbs = 18 := rfl
    omega
  have h5 : 0 ≤ gcdX 12 18 := by unfold gcdX; rw [if_neg h0, h4]; exact Int.emod_nonneg _ (by decide)
  have h6 : gcdX 12 18 < 3 := by unfold gcdX; rw [if_neg h0, h4]; exact Int.emod_lt_of_pos _ (by decide)
  refine ⟨h1, ?_, ?_⟩ <;> omega
theorem str_255 : strZ 16 true (-255) = [45, 70, 70] := by
  have h : txt 16 255 = [102, 102] := by
    unfold txt
    rw [if_neg (by decide), dgs_pos (by decide) (by decide), dgs_pos (by decide) (by decide), show 255 / 16 / 16 = 0 from rfl, dgs_zero]
    rfl
  unfold strZ
  rw [show (-255 : Int).natAbs = 255 from rfl, h]
  rfl
theorem Zn2 {C : Ctx} {dst : Option Tmp} {x y : Operand} {xt yt ty : TypeId} {pos : String} {aft : Array Edge} {gd : Option (Nat × Bool)} {env : List D} {H : Heap} {s t : ByteArray} (hx : evO C env x = some (.str s)) (hy : evO C env y = some (.str t)) (h : s = t) : OpQ C ⟨dst, .binOp .eql xt x y yt, ty, pos, aft, gd⟩ env H (.bool true) := by
  have := ZmS (C := C) (H := H) (dst := dst) (ty := ty) (pos := pos) (aft := aft) (gd := gd) (xt := xt) (yt := yt) hx hy
  rw [h, beq_self_eq_true] at this
  exact this
theorem Zis : PC C Zit [] (fun o => o = .ret (.bool true)) := by
  have hdiv : PC C Zgh [intD (-7), intD 2, .int .i64 4] (fun o => o = .ret (.tup [intD (-4), intD 1, .int .i64 0])) := by
    refine (ZnW (decide ((-7 : Int) < 0), lim (-7 : Int).natAbs) (decide ((2 : Int) < 0), lim (2 : Int).natAbs) (U32_lim _) (U32_lim _) 4).mono fun o ho => ?_
    rw [okI_of2 (fit_lt (by decide)) (fit_lt (by decide)), valI_int, valI_int, show divR 4 true (-7) 2 = ((-4, 1), 0) by decide] at ho
    exact ho
  have hgcd : PC C Zgj [intD 12, intD 18] (fun o => o = .ret (.tup [intD 6, intD 2, intD (-1), .int .i64 0])) := by
    refine (ZnY (decide ((12 : Int) < 0), lim (12 : Int).natAbs) (decide ((18 : Int) < 0), lim (18 : Int).natAbs) (U32_lim _) (U32_lim _)).mono fun o ho => ?_
    obtain ⟨e1, e2, e3⟩ := gcd_12_18
    rw [okI_of2 (fit_lt (by decide)) (fit_lt (by decide)), valI_int, valI_int] at ho
    simp only [gcdR, cond_true, e1, e2, e3] at ho
    exact ho
  have htext : PC C Zfc [intD (-255), .int .i64 16, .bool true] (fun o => o = .ret (.tup [.str ⟨#[45, 70, 70]⟩, .int .i64 0])) := by
    refine (Znu (decide ((-255 : Int) < 0), lim (-255 : Int).natAbs) (U32_lim _) 16 true).mono fun o ho => ?_
    have : textR (decide ((-255 : Int) < 0), lim (-255 : Int).natAbs) 16 true = ([45, 70, 70], 0) := by
      unfold textR
      rw [okI_of (fit_lt (by decide)), valI_int, show (16 : Int).toNat = 16 from rfl, str_255]
      rfl
    rw [this] at ho
    exact ho
  have hs : ∀ x : Int, PC C ZeE [intD x, intD x] (fun o => o = .ret (.bool true)) := fun x => (ZkU x x).mono fun o ho => by rw [ho, decide_eq_true rfl]
  refine PC.rn ZdA Zhl Zhm (rs := [.tmp 0]) (by rw [Zhn]) ?_
  refine ARun.seq (ARun.region ?_); refine xa ?_; refine AOps.nil (ARun.seq (ARun.region ?_))
  refine xc rfl rfl (Zap (-7) (by decide) (by decide)) ?_
  refine y_new rfl (Zag rfl rfl rfl rfl) ?_
  refine y_new rfl (Zaa rfl rfl rfl rfl rfl rfl rfl rfl (Nat.le_of_ble_eq_true rfl) rfl) ?_
  refine AOps.nil (ARun.seq (ARun.region ?_))
  refine xc rfl rfl (Zap 2 (by decide) (by decide)) ?_
  refine y_new rfl (Zag rfl rfl rfl rfl) ?_
  refine y_new rfl (Zaa rfl rfl rfl rfl rfl rfl rfl rfl (Nat.le_of_ble_eq_true rfl) rfl) ?_
  refine AOps.nil (ARun.seq (ARun.region ?_))
  refine y_op rfl (Zab rfl rfl rfl rfl rfl rfl) ?_
  refine y_op rfl (Zab rfl rfl rfl rfl rfl rfl) ?_
  refine xc rfl rfl (hdiv) ?_
  refine xm ?_; refine xe ?_; refine xe ?_; refine xe ?_
  refine y_new rfl (Zag rfl rfl rfl rfl) ?_
  refine y_new rfl (Zag rfl rfl rfl rfl) ?_
  refine y_new rfl (Zaa rfl rfl rfl rfl rfl rfl rfl rfl (Nat.le_of_ble_eq_true rfl) rfl) ?_
  refine y_new rfl (Zaa rfl rfl rfl rfl rfl rfl rfl rfl (Nat.le_of_ble_eq_true rfl) rfl) ?_
  refine xa ?_; refine AOps.nil (ARun.seq (ARun.region ?_))
  refine xc rfl rfl (Zap 12 (by decide) (by decide)) ?_
  refine xc rfl rfl (Zap 18 (by decide) (by decide)) ?_
  refine xc rfl rfl (hgcd) ?_
  refine xm ?_; refine xe ?_; refine xe ?_; refine xe ?_; refine xe ?_
  refine y_new rfl (Zag rfl rfl rfl rfl) ?_
  refine y_new rfl (Zag rfl rfl rfl rfl) ?_
  refine y_new rfl (Zag rfl rfl rfl rfl) ?_
  refine y_new rfl (Zaa rfl rfl rfl rfl rfl rfl rfl rfl (Nat.le_of_ble_eq_true rfl) rfl) ?_
  refine y_new rfl (Zaa rfl rfl rfl rfl rfl rfl rfl rfl (Nat.le_of_ble_eq_true rfl) rfl) ?_
  refine y_new rfl (Zaa rfl rfl rfl rfl rfl rfl rfl rfl (Nat.le_of_ble_eq_true rfl) rfl) ?_
  refine xa ?_; refine AOps.nil (ARun.seq (ARun.region ?_))
  refine xc rfl rfl (Zap (-255) (by decide) (by decide)) ?_
  refine xc rfl rfl (htext) ?_
  refine xm ?_; refine xe ?_; refine xe ?_; refine xa ?_; refine xa ?_; refine AOps.nil (ARun.seq ?_)
  refine ARun.drawnP 39 (fun _ => False) mixC rfl rfl (by kernel_rfl) (fun _ _ h => h.elim) ?_
  refine .op rfl (q_move rfl) ?_
  refine .op rfl (q_int rfl rfl rfl) ?_
  refine .op rfl (q_move rfl) ?_
  refine .op rfl (q_move rfl) ?_
  refine .op rfl (q_int rfl rfl rfl) ?_
  refine .op rfl (q_pick rfl rfl rfl rfl) ?_
  refine .op rfl (q_move rfl) ?_
  refine .op rfl (q_move rfl) ?_
  refine .op rfl (q_int rfl rfl rfl) ?_
  refine .op rfl (q_pick rfl rfl rfl rfl) ?_
  refine .op rfl (q_move rfl) ?_
  refine .op rfl (Zab rfl rfl rfl rfl rfl rfl) ?_
  refine .op rfl (q_call rfl rfl (Zbz (-4) (by decide) (by decide))) ?_
  refine .op rfl (q_call rfl rfl (hs (-4))) ?_
  refine .op rfl (q_pick rfl rfl rfl rfl) ?_
  refine .op rfl (q_move rfl) ?_
  refine .op rfl (Zab rfl rfl rfl rfl rfl rfl) ?_
  refine .op rfl (q_call rfl rfl (Zbz 1 (by decide) (by decide))) ?_
  refine .op rfl (q_call rfl rfl (hs 1)) ?_
  refine .op rfl (q_pick rfl rfl rfl rfl) ?_
  refine .op rfl (q_move rfl) ?_
  refine .op rfl (Zab rfl rfl rfl rfl rfl rfl) ?_
  refine .op rfl (q_call rfl rfl (Zbz 6 (by decide) (by decide))) ?_
  refine .op rfl (q_call rfl rfl (hs 6)) ?_
  refine .op rfl (q_pick rfl rfl rfl rfl) ?_
  refine .op rfl (q_move rfl) ?_
  refine .op rfl (Zab rfl rfl rfl rfl rfl rfl) ?_
  refine .op rfl (q_call rfl rfl (Zbz 2 (by decide) (by decide))) ?_
  refine .op rfl (q_call rfl rfl (hs 2)) ?_
  refine .op rfl (q_pick rfl rfl rfl rfl) ?_
  refine .op rfl (q_move rfl) ?_
  refine .op rfl (Zab rfl rfl rfl rfl rfl rfl) ?_
  refine .op rfl (q_call rfl rfl (Zbz (-1) (by decide) (by decide))) ?_
  refine .op rfl (q_call rfl rfl (hs (-1))) ?_
  refine .op rfl (q_pick rfl rfl rfl rfl) ?_
  refine .op rfl (q_move rfl) ?_
  refine .op rfl (q_move rfl) ?_
  refine .op rfl (Zn2 rfl rfl rfl) ?_
  refine .op rfl (q_pick rfl rfl rfl rfl) ?_
  refine .nil (fun hG => ?_)
  refine xa ?_; refine AOps.nil ?_
  refine ARun.ret ?_
  refine ⟨_, _, _, .tmp rfl .nil, .cons (.same _) .nil, rfl, ?_⟩
  rfl
end Go.V
set_option maxHeartbeats 4000000
set_option synthInstance.maxSize 100000
set_option synthInstance.maxHeartbeats 2000000
namespace Go.V
open Go.RowKit Go.Proofs
end Go.V
set_option maxHeartbeats 4000000
set_option synthInstance.maxSize 100000
set_option synthInstance.maxHeartbeats 2000000
namespace Go.V
open Go.RowKit Go.Proofs
theorem quo2_u32 {x : Nat} (h : x < 4294967296) : IntKind.u32.wrap ((x : Int).tdiv 2) = ((x / 2 : Nat) : Int) := by
  rw [Int.tdiv_eq_ediv_of_nonneg (by omega), IntKind.wrap_u32]; omega
theorem bl_half {x : Nat} (h : 0 < x) : bl x = 1 + bl (x / 2) := by
  by_cases h1 : x = 1
  · subst h1
    have h2 : bl 1 ≤ 1 := bl_le.2 (by decide)
    have h3 : 0 < bl 1 := bl_lt.2 (by decide)
    rw [show 1 / 2 = 0 from rfl, bl_zero]; omega
  have hs := bl_div (n := x) (k := 1) (by omega)
  rw [Nat.pow_one] at hs
  exact hs
theorem ZkV (a : Nat) (ha : (lim a).length ≤ 1099511627776) : PC C Zl4 [numD a] (fun o => o = .ret (.int .i64 ((bl a : Nat) : Int))) := by
  refine PC.rn ZgF Zk9 Zla (rs := [.tmp 2]) (by rw [Zlb]) ?_
  refine ARun.seq (ARun.region ?_); refine xa ?_; refine AOps.nil (ARun.seq (ARun.region ?_)); refine xm ?_; refine xN ?_; refine xa ?_; refine AOps.nil (ARun.seq (ARun.seq (ARun.region ?_))); refine xm ?_; refine xi ?_; refine AOps.nil ?_
  refine ARun.cond rfl (fun h => ?_) (fun h => ?_)
  · skip
    have h : (lim a).length = 0 := by simpa using h
    refine ARun.seq (ARun.region ?_); refine xa ?_; refine AOps.nil ?_
    refine ARun.ret ?_
    refine ⟨_, _, _, .tmp rfl .nil, .cons (.same _) .nil, rfl, ?_⟩
    have h0 : a = 0 := by apply Classical.byContradiction; intro hn; have := ln_pos.2 hn; omega
    rw [h0, bl_zero]; rfl
  have h : 0 < (lim a).length := by
    rcases Nat.eq_zero_or_pos (lim a).length with e | e
    · rw [e] at h; simp at h
    exact e
  have htop := bl_top h
  have hd := dig_lt a ((lim a).length - 1)
  have hsub : IntKind.i64.wrap (((lim a).length : Int) - 1) = (((lim a).length - 1 : Nat) : Int) := by rw [IntWalk.i64_in _ (by omega)]; omega
  refine ARun.skip (ARun.seq (ARun.region ?_)); refine xm ?_
  refine y_op rfl (q_sub (r := (((lim a).length - 1 : Nat) : Int)) rfl rfl hsub) ?_
  refine y_op rfl (q_mul rfl rfl (nmul_i64 (m := 32) (by omega))) ?_
  refine xa ?_; refine AOps.nil (ARun.seq (ARun.seq (ARun.region ?_))); refine xm ?_; refine xm ?_
  refine y_op rfl (q_sub (r := (((lim a).length - 1 : Nat) : Int)) rfl rfl hsub) ?_
  refine y_op rfl (Zaj (i := (((lim a).length - 1 : Nat) : Int)) rfl rfl rfl rfl (by omega) (by omega) (nts_ne (by omega)) (drop_nat rfl)) ?_
  refine y_op rfl (q_load rfl rfl rfl (lim_load (i := (lim a).length - 1) (by omega))) ?_
  refine xa ?_; refine AOps.nil (ARun.block ?_)
  refine ARun.loopI (S := Nat × Nat) (fun σ : Nat × Nat => [(18, .any), (19, .any), (20, .any), (21, .any), (22, .any), (23, .any), (4, .int .i64 (σ.1 : Int)), (5, .int .u32 (σ.2 : Int))]) (fun σ : Nat × Nat => []) (fun σ : Nat × Nat => σ.1 + bl σ.2 = bl a ∧ σ.2 < 4294967296) (fun σ : Nat × Nat => σ.2) ((32 * ((lim a).length - 1), dig a ((lim a).length - 1))) ?_ ?_ ?_ ?_
  · exact ⟨htop.symm, hd⟩
  · (repeat' first | exact envLe_nil | apply envLe_any | apply envLe_same)
  · rfl
  rintro ⟨b, x⟩ hinv ih
  dsimp only at hinv ih ⊢
  obtain ⟨hb, hx⟩ := hinv
  have hbl := bl_le_ln a
  clear hsub
  refine ARun.seq (ARun.seq (ARun.region ?_)); refine xm ?_; refine xi ?_; refine AOps.nil ?_
  refine ARun.ite rfl (fun h2 => ?_) (fun h2 => ?_)
  · skip
    have hx0 : 0 < x := by omega
    have hs := bl_half hx0
    refine ARun.skip (ARun.seq (ARun.block (ARun.region ?_))); refine xm ?_
    refine y_op rfl (q_add rfl rfl (nadd1_i64 (by omega))) ?_
    refine xa ?_; refine AOps.nil (ARun.inBlock (ARun.region ?_)); refine xm ?_
    refine y_op rfl (q_quo rfl rfl (by decide) (quo2_u32 hx)) ?_
    refine xa ?_; refine AOps.nil ?_
    refine ARun.again (ih ((b + 1, x / 2)) ?_ ?_) ?_ ?_
    · exact ⟨by dsimp only; omega, by dsimp only; omega⟩
    · exact Nat.div_lt_self hx0 (by decide)
    · (repeat' first | exact envLe_nil | apply envLe_any | apply envLe_same)
    rfl
  obtain rfl : x = 0 := by omega
  rw [bl_zero, Nat.add_zero] at hb
  refine ARun.exit rfl ?_
  refine ARun.seq (ARun.region ?_); refine xm ?_; refine xa ?_; refine AOps.nil ?_
  refine ARun.ret ?_
  refine ⟨_, _, _, .tmp rfl .nil, .cons (.same _) .nil, rfl, ?_⟩
  rw [← hb]; rfl
end Go.V
set_option maxHeartbeats 4000000
set_option synthInstance.maxSize 100000
set_option synthInstance.maxHeartbeats 2000000
namespace Go.V
open Go.RowKit Go.Proofs
end Go.V
set_option maxHeartbeats 4000000
set_option synthInstance.maxSize 100000
set_option synthInstance.maxHeartbeats 2000000
namespace Go.V
open Go.RowKit Go.Proofs
theorem Zds {C : Ctx} {dst : Option Tmp} {x y : Operand} {xt yt ty : TypeId} {pos : String} {aft : Array Edge} {gd : Option (Nat × Bool)} {env : List D} {H : Heap} {k : IntKind} {m n : Int} (hx : evO C env x = some (.int k m)) (hy : evO C env y = some (.int k n)) (h : m = n) : OpQ C ⟨dst, .binOp .eql xt x y yt, ty, pos, aft, gd⟩ env H (.bool true) :=
  o_int hx hy (by subst h; simp [intBin])
theorem Znx {C : Ctx} {dst : Option Tmp} {x y : Operand} {xt yt ty : TypeId} {pos : String} {aft : Array Edge} {gd : Option (Nat × Bool)} {env : List D} {H : Heap} {s t : Bool} {S b : Nat} {zv : Value} (ht : C.ty xt = some ⟨.bool, S, b, zv⟩) (hx : evO C env x = some (.bool s)) (hy : evO C env y = some (.bool t)) (h : s = t) : OpQ C ⟨dst, .binOp .eql xt x y yt, ty, pos, aft, gd⟩ env H (.bool true) := by
  have := Zjp (C := C) (H := H) (dst := dst) (ty := ty) (pos := pos) (aft := aft) (gd := gd) (yt := yt) hx hy ht
  rw [h, beq_self_eq_true] at this
  exact this
theorem same_T (x : Int) : PC C ZeE [intD x, intD x] (fun o => o = .ret (.bool true)) := (ZkU x x).mono fun o ho => by rw [ho, decide_eq_true rfl]
end Go.V
/- THE SPECIFICATION's SHIFTS and DIVISION: plain Lean. -/
namespace Go.V
theorem shlA_step {a q r i c : Nat} {ys : List Nat} (hu : U32 ys) (hl : ys.length = q + i) (hr : r < 32) (hc : c < 2 ^ r) (hv : val ys + B ^ (q + i) * c = a % B ^ i * 2 ^ r * B ^ q) :
    U32 (ys ++ [(dig a i * 2 ^ r + c) % 4294967296]) ∧ (ys ++ [(dig a i * 2 ^ r + c) % 4294967296]).length = q + (i + 1) ∧ (dig a i * 2 ^ r + c) / 4294967296 < 2 ^ r ∧
      val (ys ++ [(dig a i * 2 ^ r + c) % 4294967296]) + B ^ (q + (i + 1)) * ((dig a i * 2 ^ r + c) / 4294967296) = a % B ^ (i + 1) * 2 ^ r * B ^ q := by
  have hsum : dig a i * 2 ^ r + c = c + dig a i * 2 ^ r := Nat.add_comm _ _
  refine ⟨hu.snoc (Nat.mod_lt _ (by decide)), by simp [hl]; omega, by rw [hsum]; exact shl_carry (dig_lt a i) hc, ?_⟩
  rw [val_append, hl, mod_succ, ← Nat.add_assoc q i 1, Nat.pow_succ, Nat.mul_assoc]
  generalize hs : dig a i * 2 ^ r + c = s
  have h1 : B ^ (q + i) * (s % 4294967296) + B ^ (q + i) * (B * (s / 4294967296)) = B ^ (q + i) * s := by
    rw [← Nat.mul_add]; congr 1; exact Nat.mod_add_div s B
  have h2 : B ^ (q + i) * s = B ^ (q + i) * (dig a i * 2 ^ r) + B ^ (q + i) * c := by rw [← hs, Nat.mul_add]
  have h3 : (a % B ^ i + B ^ i * dig a i) * 2 ^ r * B ^ q = a % B ^ i * 2 ^ r * B ^ q + B ^ (q + i) * (dig a i * 2 ^ r) := by
    rw [Nat.add_mul, Nat.add_mul, Nat.pow_add]
    congr 1
    rw [Nat.mul_comm (B ^ q) (B ^ i), Nat.mul_assoc (B ^ i), Nat.mul_assoc (B ^ i), Nat.mul_assoc (B ^ i)]
    congr 1
    exact Nat.mul_comm _ _
  simp only [val, Nat.mul_zero, Nat.add_zero]
  rw [h3]
  omega
theorem shlA_end {a q r c : Nat} {ys : List Nat} (hu : U32 ys) (hl : ys.length = q + (lim a).length) (hc : c < 2 ^ r) (hr : r < 32) (hv : val ys + B ^ (q + (lim a).length) * c = a % B ^ (lim a).length * 2 ^ r * B ^ q) :
    U32 (ys ++ [c % 4294967296]) ∧ val (ys ++ [c % 4294967296]) = a * 2 ^ (32 * q + r) := by
  have h1 : 2 ^ r ≤ 2 ^ 31 := Nat.pow_le_pow_right (by decide) (by omega)
  have h2 : c % 4294967296 = c := Nat.mod_eq_of_lt (by have : (2 : Nat) ^ 31 = 2147483648 := rfl; omega)
  refine ⟨hu.snoc (Nat.mod_lt _ (by decide)), ?_⟩
  rw [val_append, hl, h2]
  simp only [val, Nat.mul_zero, Nat.add_zero]
  rw [hv, mod_of_ln (Nat.le_refl _), Nat.pow_add, ← B_pow, Nat.mul_assoc, Nat.mul_comm (2 ^ r)]
theorem shrA_step {a n i : Nat} {ys : List Nat} (hu : U32 ys) (hl : ys.length = i) (hv : val ys = a / 2 ^ n % B ^ i) :
    U32 (ys ++ [dig (a / 2 ^ n) i]) ∧ (ys ++ [dig (a / 2 ^ n) i]).length = i + 1 ∧ val (ys ++ [dig (a / 2 ^ n) i]) = a / 2 ^ n % B ^ (i + 1) := by
  refine ⟨hu.snoc (dig_lt _ _), by simp [hl], ?_⟩
  rw [val_append, hl, mod_succ, hv]
  simp [val]
theorem shrA_dig (a n i : Nat) : (dig a (n / 32 + i + 1) * 2 ^ 32 + dig a (n / 32 + i)) / 2 ^ (n % 32) % 4294967296 = dig (a / 2 ^ n) i := by
  have h := shr_digit (m := a / B ^ (n / 32)) (r := n % 32) (i := i) (Nat.mod_lt _ (by decide))
  rw [← dig_add, ← dig_add, ← div_split] at h
  rw [← h, Nat.add_comm (dig a (n / 32 + i + 1) * 2 ^ 32), show n / 32 + i = i + n / 32 by omega, show i + n / 32 + 1 = i + 1 + n / 32 by omega]
theorem dv_back {d W h c P v y : Nat} (h1 : v + h * d = W + P * 1) (hv : v < P) (h2 : y + P * c = v + d) (hc : c ≤ 1) (hd0 : 0 < d) : 1 ≤ h ∧ W / d ≤ h - 1 ∧ y + (h - 1) * d = W + P * (1 - c) := by
  have h3 : W < h * d := by omega
  have h4 : W / d < h := (Nat.div_lt_iff_lt_mul hd0).2 h3
  obtain ⟨g, rfl⟩ : ∃ g, h = g + 1 := ⟨h - 1, by have := Nat.lt_of_le_of_lt (Nat.zero_le _) h4; omega⟩
  rw [Nat.add_mul, Nat.one_mul] at h1
  refine ⟨by omega, by rw [Nat.add_sub_cancel]; exact Nat.le_of_lt_succ h4, ?_⟩
  rw [Nat.add_sub_cancel]
  clear h4
  have hc2 : c = 0 ∨ c = 1 := by omega
  rcases hc2 with rfl | rfl
  · rw [Nat.mul_zero] at h2; rw [Nat.sub_zero]; omega
  rw [Nat.mul_one] at h2; rw [Nat.sub_self, Nat.mul_zero]; omega
end Go.V
