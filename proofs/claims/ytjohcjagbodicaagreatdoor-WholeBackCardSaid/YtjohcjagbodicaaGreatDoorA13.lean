/- A part of the proof: abstract values, rules for the steps of the program's form, and contracts of its functions, each proved; no condition. -/
import Derived.Test.YtjohcjagbodicaaGreatDoorA12
set_option linter.unusedVariables false
set_option linter.unusedSimpArgs false
set_option maxHeartbeats 2000000
set_option synthInstance.maxSize 100000
set_option synthInstance.maxHeartbeats 2000000
namespace Go.V
open Go.RowKit Go.Proofs
def fig (d : Nat) : Nat := if d < 10 then 48 + d else 87 + d
def txt (b v : Nat) : List Nat := if v = 0 then [48] else ((dgs b v).map fig).reverse
abbrev figS : ByteArray := ⟨#[48, 49, 50, 51, 52, 53, 54, 55, 56, 57, 97, 98, 99, 100, 101, 102, 103, 104, 105, 106, 107, 108, 109, 110, 111, 112, 113, 114, 115, 116, 117, 118, 119, 120, 121, 122]⟩
theorem figS_size : figS.size = 36 := rfl
theorem fig_all : ∀ d : _root_.Fin 36, (figS[d.val]'d.isLt).toNat = fig d.val := by decide
theorem fig_get {d : Nat} (h : d < 36) (h' : ((d : Nat) : Int).toNat < figS.size) : ((figS[((d : Nat) : Int).toNat]'h').toNat : Int) = ((fig d : Nat) : Int) := congrArg Int.ofNat (fig_all ⟨d, h⟩)
theorem dgs_len {b : Nat} (hb : 2 ≤ b) : ∀ (n v : Nat), v < 2 ^ n → (dgs b v).length ≤ n := by
  intro n
  induction n with
  | zero => intro v h; have : v = 0 := by omega
            subst this; rw [dgs_zero]; exact Nat.le_refl _
  | succ n ih =>
    intro v h
    rcases Nat.eq_zero_or_pos v with h0 | h0
    · subst h0; rw [dgs_zero]; exact Nat.zero_le _
    · rw [dgs_pos hb h0, List.length_cons]
      have : v / b < 2 ^ n := by
        rw [Nat.div_lt_iff_lt_mul (by omega)]
        have : 2 ^ n * 2 ≤ 2 ^ n * b := Nat.mul_le_mul_left _ hb
        rw [Nat.pow_succ] at h
        omega
      have := ih _ this
      omega
theorem B_pow2 (n : Nat) : B ^ n = 2 ^ (32 * n) := by rw [Nat.pow_mul]; rfl
theorem dgs_fit {b a : Nat} (hb : 2 ≤ b) (ha : (lim a).length ≤ 1024) : (dgs b a).length ≤ 32768 := by
  suffices h : ∀ N, 32 * (lim a).length ≤ N → (dgs b a).length ≤ N from h _ (by omega)
  intro N hN
  apply dgs_len hb
  have h1 := ln_lt a
  rw [B_pow2] at h1
  exact Nat.lt_of_lt_of_le h1 (Nat.pow_le_pow_right (by decide) hN)
abbrev bts (b a k : Nat) : List D := nts .u8 (((dgs b a).take k).map fig)
theorem bts_succ {b a k d : Nat} (h : (dgs b a)[k]? = some d) : bts b a (k + 1) = bts b a k ++ [.int .u8 ((fig d : Nat) : Int)] := by
  show (((dgs b a).take (k + 1)).map fig).map _ = _
  rw [List.take_add_one, h]
  simp
theorem getJ {α : Type} {a b c d e x : α} {J : List α} : (a :: b :: c :: d :: e :: (J ++ [x]))[5 + J.length]? = some x := by
  rw [show 5 + J.length = J.length + 5 by omega]
  simp
theorem setJ {α : Type} {a b c d e x y : α} {J : List α} : (a :: b :: c :: d :: e :: (J ++ [x])).set (5 + J.length) y = a :: b :: c :: d :: e :: (J ++ [y]) := by
  rw [show 5 + J.length = J.length + 5 by omega]
  simp
theorem srcD_row {H : Heap} {id n : Nat} {o : AObj} (h : H[id]? = some (some o)) : srcD H (.row id n) = some (n, o.cells) := by simp only [srcD, h]
def RT (b a k : Nat) (o0 : Option AObj) (T : Heap) : Prop := ∃ J : Heap, o0 = some ⟨[growD (5 + J.length) (bts b a k)], Zge, 1, true, none⟩ ∧ T = growT J Zcj (bts b a k)
theorem Znc (a b : Nat) (ha : (lim a).length ≤ 1024) (hb2 : 2 ≤ b) (hb36 : b ≤ 36) : PC C ZjV [numD a, .int .i64 (b : Int)] (fun o => o = .ret (.str (bytesOf (txt b a)))) := by
  have hfit := dgs_fit hb2 ha
  refine PC.run Zee ZiQ rfl ZiR rfl (rs := [.tmp 4]) (by rw [ZiS]) (by simp only [List.length_cons, List.length_nil, Nat.reduceAdd, Nat.reduceSub, List.replicate_succ, List.replicate_zero, List.cons_append, List.nil_append]; exact rfl) ?_
  refine ARun.seq (ARun.region ?_)
  refine y_op rfl (Zaa rfl) ?_
  refine AOps.nil (ARun.seq (ARun.region ?_))
  refine y_new rfl (Zak rfl rfl rfl rfl) ?_
  refine AOps.nil (ARun.seq (ARun.seq (ARun.region ?_)))
  refine y_op rfl (q_move rfl) ?_
  refine y_op rfl (q_move rfl) ?_
  refine ZaY rfl rfl rfl rfl (Znb a b _) ?_ (by rintro _ _ ⟨h, _⟩; cases h)
  rintro _ _ ⟨h, rfl⟩
  injection h with h
  subst h
  refine AOps.nil (ARun.block ?_)
  refine ARun.rangeFn (n := 3) rfl rfl rfl (Zlp a b ha hb2 hb36 [10] rfl _ _ _ (RT b a) (fun k c d o0 T hd hR => ?_) _ [] ?_) ?_ ?_
  · obtain ⟨J, rfl, rfl⟩ := hR
    have hk := (List.getElem?_eq_some_iff.1 hd).1
    have hd36 : d < 36 := Nat.lt_of_lt_of_le (dgs_lt hb2 a d (List.mem_of_getElem? hd)) hb36
    have hbl : (bts b a k).length + 1 ≤ 40000 := by
      simp only [nts, List.length_map, List.length_take]; omega
    refine ARun.env0 (by simp only [setL, List.zip_cons_cons, List.zip_nil_right, List.set_cons_succ, List.set_cons_zero]; exact rfl) ?_
    refine ARun.region ?_
    refine y_op rfl (Zaa rfl) ?_
    refine AOps.nil ?_
    refine ARun.beginRoundI rfl rfl ?_
    refine ARun.block ?_
    refine ARun.drawnAll 6 mixC (by kernel_rfl) (by kernel_rfl) (allOf (by kernel_rfl : _ = [[0, 1, 2, 3, 4, 5], [1, 0, 2, 3, 4, 5], [1, 2, 0, 3, 4, 5], [1, 2, 3, 0, 4, 5]]) (consAll ?_ (consAll ?_ (consAll ?_ (consAll ?_ nilAll)))))
    · skip
      refine yo_at ?_
      refine yo_op rfl (Zaf rfl rfl rfl rfl rfl) ?_
      refine yo_at ?_
      refine yo_op rfl (q_move rfl) ?_
      refine yo_at ?_
      refine yo_op rfl (Zaw rfl rfl rfl (by omega) (by rw [figS_size]; omega) (fig_get hd36 _)) ?_
      refine yo_at ?_
      refine yo_new rfl (Zao rfl rfl rfl rfl rfl rfl rfl rfl rfl rfl rfl (by decide) (by decide)) ?_
      refine yo_at ?_
      refine yo_grow rfl rfl rfl rfl rfl rfl rfl rfl rfl rfl (by show (_ + 1) * 1 ≤ _; omega) (by omega) (fun J' => ?_)
      refine yo_at ?_
      refine yo_new rfl (Zag rfl rfl rfl (okCell_grow (B := [_, _, _, _, _]) rfl) rfl rfl (Nat.le_of_ble_eq_true rfl) rfl) ?_
      refine yo_nil ?_
      refine ARun.inBlock ?_
      refine ARun.nil ⟨rfl, rfl, _, _, ?_, rfl⟩
      unfold RT
      rw [bts_succ hd]
      exact ⟨J', rfl, rfl⟩
    · skip
      refine yo_at ?_
      refine yo_op rfl (q_move rfl) ?_
      refine yo_at ?_
      refine yo_op rfl (Zaf rfl rfl rfl rfl rfl) ?_
      refine yo_at ?_
      refine yo_op rfl (Zaw rfl rfl rfl (by omega) (by rw [figS_size]; omega) (fig_get hd36 _)) ?_
      refine yo_at ?_
      refine yo_new rfl (Zao rfl rfl rfl rfl rfl rfl rfl rfl rfl rfl rfl (by decide) (by decide)) ?_
      refine yo_at ?_
      refine yo_grow rfl rfl rfl rfl rfl rfl rfl rfl rfl rfl (by show (_ + 1) * 1 ≤ _; omega) (by omega) (fun J' => ?_)
      refine yo_at ?_
      refine yo_new rfl (Zag rfl rfl rfl (okCell_grow (B := [_, _, _, _, _]) rfl) rfl rfl (Nat.le_of_ble_eq_true rfl) rfl) ?_
      refine yo_nil ?_
      refine ARun.inBlock ?_
      refine ARun.nil ⟨rfl, rfl, _, _, ?_, rfl⟩
      unfold RT
      rw [bts_succ hd]
      exact ⟨J', rfl, rfl⟩
    · skip
      refine yo_at ?_
      refine yo_op rfl (q_move rfl) ?_
      refine yo_at ?_
      refine yo_op rfl (Zaw rfl rfl rfl (by omega) (by rw [figS_size]; omega) (fig_get hd36 _)) ?_
      refine yo_at ?_
      refine yo_op rfl (Zaf rfl rfl rfl rfl rfl) ?_
      refine yo_at ?_
      refine yo_new rfl (Zao rfl rfl rfl rfl rfl rfl rfl rfl rfl rfl rfl (by decide) (by decide)) ?_
      refine yo_at ?_
      refine yo_grow rfl rfl rfl rfl rfl rfl rfl rfl rfl rfl (by show (_ + 1) * 1 ≤ _; omega) (by omega) (fun J' => ?_)
      refine yo_at ?_
      refine yo_new rfl (Zag rfl rfl rfl (okCell_grow (B := [_, _, _, _, _]) rfl) rfl rfl (Nat.le_of_ble_eq_true rfl) rfl) ?_
      refine yo_nil ?_
      refine ARun.inBlock ?_
      refine ARun.nil ⟨rfl, rfl, _, _, ?_, rfl⟩
      unfold RT
      rw [bts_succ hd]
      exact ⟨J', rfl, rfl⟩
    · skip
      refine yo_at ?_
      refine yo_op rfl (q_move rfl) ?_
      refine yo_at ?_
      refine yo_op rfl (Zaw rfl rfl rfl (by omega) (by rw [figS_size]; omega) (fig_get hd36 _)) ?_
      refine yo_at ?_
      refine yo_new rfl (Zao rfl rfl rfl rfl rfl rfl rfl rfl rfl rfl rfl (by decide) (by decide)) ?_
      refine yo_at ?_
      refine yo_op rfl (Zaf rfl rfl rfl rfl rfl) ?_
      refine yo_at ?_
      refine yo_grow rfl rfl rfl rfl rfl rfl rfl rfl rfl rfl (by show (_ + 1) * 1 ≤ _; omega) (by omega) (fun J' => ?_)
      refine yo_at ?_
      refine yo_new rfl (Zag rfl rfl rfl (okCell_grow (B := [_, _, _, _, _]) rfl) rfl rfl (Nat.le_of_ble_eq_true rfl) rfl) ?_
      refine yo_nil ?_
      refine ARun.inBlock ?_
      refine ARun.nil ⟨rfl, rfl, _, _, ?_, rfl⟩
      unfold RT
      rw [bts_succ hd]
      exact ⟨J', rfl, rfl⟩
  · exact ⟨[], rfl, rfl⟩
  · rintro d H2 ⟨h, o0', T', hR, rfl⟩
    injection h with h
    subst h
    obtain ⟨J, rfl, rfl⟩ := hR
    refine ⟨.ready, rfl, ?_⟩
    have hfull : bts b a (dgs b a).length = nts .u8 ((dgs b a).map fig) := by show (((dgs b a).take _).map fig).map _ = _; rw [List.take_length]
    rw [hfull]
    rcases Nat.eq_zero_or_pos a with h0 | h0
    · subst h0
      rw [show dgs b 0 = [] from dgs_zero b]
      refine ARun.hp (H' := some ⟨[.nilsl], Zge, 1, true, none⟩ :: some ⟨[numD 0], Zd3, 1, true, none⟩ :: some ⟨[.int .i64 (b : Int)], t_int, 1, true, none⟩ :: defsO :: none :: J) rfl ?_
      refine ARun.inBlock (ARun.seq (ARun.seq (ARun.region ?_)))
      refine y_op rfl (Zaf rfl rfl rfl rfl rfl) ?_
      refine y_op rfl (Znx rfl rfl) ?_
      refine y_op rfl (q_int rfl rfl rfl) ?_
      refine AOps.nil ?_
      refine ARun.ite rfl (fun hz => ?_) (fun hz => ?_)
      · skip
        refine ARun.seq (ARun.region ?_)
        refine y_op rfl (Zaa rfl) ?_
        refine AOps.nil ?_
        refine ARun.ret ?_
        exact ⟨⟨_, rfl, rfl, rfl⟩, _, _, _, .tmp rfl .nil, .cons (.same _) .nil, rfl, rfl⟩
      · skip
        exact absurd rfl hz
    · have hne : (dgs b a).map fig ≠ [] := by rw [dgs_pos hb2 h0]; simp
      have htx : txt b a = ((dgs b a).map fig).reverse := by unfold txt; rw [if_neg (by omega)]
      have hln : ((dgs b a).map fig).length ≤ 32768 := by simpa using hfit
      have hu8 : ∀ x ∈ (dgs b a).map fig, x < 256 := by
        intro x hx
        obtain ⟨d, hd, rfl⟩ := List.mem_map.1 hx
        have := dgs_lt hb2 a d hd
        unfold fig; split <;> omega
      rw [htx]
      generalize (dgs b a).map fig = X at *
      obtain ⟨x, l, rfl⟩ := List.exists_cons_of_ne_nil hne
      refine ARun.hp (H' := some ⟨[.row (5 + J.length) (x :: l).length], Zge, 1, true, none⟩ :: some ⟨[numD 0], Zd3, 1, true, none⟩ :: some ⟨[.int .i64 (b : Int)], t_int, 1, true, none⟩ :: defsO :: none :: (J ++ [rowB (x :: l)])) (by simp [growD, growT, nts]) ?_
      refine ARun.inBlock (ARun.seq (ARun.seq (ARun.region ?_)))
      refine y_op rfl (Zaf rfl rfl rfl rfl rfl) ?_
      refine y_op rfl (ZaI rfl getJ rfl) ?_
      refine y_op rfl (q_int rfl rfl rfl) ?_
      refine AOps.nil ?_
      refine ARun.ite rfl (fun hz => ?_) (fun hz => ?_)
      · skip
        exfalso
        simp at hz
        omega
      · skip
        refine ARun.skip (ARun.seq (ARun.region ?_))
        refine y_op rfl (Zaf rfl rfl rfl rfl rfl) ?_
        refine ZaY rfl rfl rfl rfl (HC.frame1 (o' := ⟨nts .u8 (x :: l).reverse, Zcj, 1, true, none⟩) (Zlq (x :: l) (by omega)) rfl rfl rfl rfl (pures_nts _) (pures_nts _) rfl getJ) ?_ (by rintro _ _ ⟨h, _⟩; cases h)
        rintro _ _ ⟨h, rfl⟩
        injection h with h
        subst h
        refine AOps.hp setJ ?_
        refine AOps.nil (ARun.seq (ARun.region ?_))
        refine y_op rfl (Zaf rfl rfl rfl rfl rfl) ?_
        refine y_op rfl (Zij (n := (x :: l).length) (l := (x :: l).reverse) rfl (by kernel_rfl) rfl rfl (srcD_row (o := ⟨nts .u8 (x :: l).reverse, Zcj, 1, true, none⟩) getJ) (by simp)) ?_
        refine y_op rfl (Zaa rfl) ?_
        refine AOps.nil ?_
        refine ARun.ret ?_
        exact ⟨⟨_, rfl, rfl, rfl⟩, _, _, _, .tmp rfl .nil, .cons (.same _) .nil, rfl, rfl⟩
  · rintro d H2 ⟨h, _⟩
    cases h
end Go.V
set_option maxHeartbeats 4000000
set_option maxRecDepth 100000
set_option synthInstance.maxSize 100000
set_option synthInstance.maxHeartbeats 2000000
namespace Go.V
open Go.RowKit Go.Proofs
def digV (c : Nat) : Nat := if 48 ≤ c ∧ c ≤ 57 then c - 48 else if 97 ≤ c ∧ c ≤ 122 then c - 87 else if 65 ≤ c ∧ c ≤ 90 then c - 55 else 36
theorem Zio (c : Nat) (hc : c < 256) : PC C Zen [.int .u8 (c : Int)] (fun o => o = .ret (.int .i64 ((digV c : Nat) : Int))) := by
  refine PC.run ZdH ZhO rfl ZhP rfl (rs := [.tmp 2]) (by rw [ZhQ]) (by simp only [List.length_cons, List.length_nil, Nat.reduceAdd, Nat.reduceSub, List.replicate_succ, List.replicate_zero, List.cons_append, List.nil_append]; exact rfl) ?_
  refine ARun.seq (ARun.region ?_)
  refine y_op rfl (Zaa rfl) ?_
  refine AOps.nil (ARun.seq (ARun.block (ARun.seq (ARun.region ?_))))
  refine y_op rfl (q_move rfl) ?_
  refine y_op rfl (q_int rfl rfl rfl) ?_
  refine y_op rfl (q_move rfl) ?_
  refine AOps.bool 6 rfl (fun a0 => ?_) (fun a0 => ?_)
  · skip
    have a0' := of_decide_eq_true a0
    refine y_op rfl (q_move rfl) ?_
    refine y_op rfl (q_int rfl rfl rfl) ?_
    refine y_op rfl (q_pick rfl rfl rfl rfl) ?_
    refine y_op rfl (Zaa rfl) ?_
    refine AOps.nil ?_
    refine ARun.ite rfl (fun b0 => ?_) (fun b0 => ?_)
    · skip
      have hv : digV c = c - 48 := by unfold digV; (repeat' split) <;> omega
      have hc1 : 48 ≤ c := by omega
      refine ARun.seq (ARun.region ?_)
      refine y_op rfl (q_move rfl) ?_
      refine y_op rfl (q_sub rfl rfl (show _ = ((c - 48 : Nat) : Int) by rw [IntKind.wrap_u8]; omega)) ?_
      refine y_op rfl (q_conv rfl rfl rfl (nconv_i64 (by omega))) ?_
      refine y_op rfl (Zaa rfl) ?_
      refine AOps.nil ?_
      refine ARun.ret ?_
      refine ⟨_, _, _, .tmp rfl .nil, .cons (.same _) .nil, rfl, ?_⟩
      rw [hv, show ((c - 48 : Nat) : Int) = ((c - 48 : Nat) : Int) by omega]; rfl
    · skip
      refine ARun.seq (ARun.region ?_)
      refine y_op rfl (q_move rfl) ?_
      refine y_op rfl (q_int rfl rfl rfl) ?_
      refine y_op rfl (q_move rfl) ?_
      refine AOps.bool 16 rfl (fun a1 => ?_) (fun a1 => ?_)
      · skip
        have a1' := of_decide_eq_true a1
        refine y_op rfl (q_move rfl) ?_
        refine y_op rfl (q_int rfl rfl rfl) ?_
        refine y_op rfl (q_pick rfl rfl rfl rfl) ?_
        refine y_op rfl (Zaa rfl) ?_
        refine AOps.nil ?_
        refine ARun.ite rfl (fun b1 => ?_) (fun b1 => ?_)
        · skip
          have hv : digV c = c - 87 := by unfold digV; (repeat' split) <;> omega
          have hc1 : 97 ≤ c := by omega
          refine ARun.seq (ARun.region ?_)
          refine y_op rfl (q_move rfl) ?_
          refine y_op rfl (q_sub rfl rfl (show _ = ((c - 97 : Nat) : Int) by rw [IntKind.wrap_u8]; omega)) ?_
          refine y_op rfl (q_conv rfl rfl rfl (nconv_i64 (by omega))) ?_
          refine y_op rfl (q_add rfl rfl (nadd1_i64 (by omega))) ?_
          refine y_op rfl (Zaa rfl) ?_
          refine AOps.nil ?_
          refine ARun.ret ?_
          refine ⟨_, _, _, .tmp rfl .nil, .cons (.same _) .nil, rfl, ?_⟩
          rw [hv, show ((c - 87 : Nat) : Int) = ((c - 97 : Nat) : Int) + 10 by omega]; rfl
        · skip
          refine ARun.seq (ARun.region ?_)
          refine y_op rfl (q_move rfl) ?_
          refine y_op rfl (q_int rfl rfl rfl) ?_
          refine y_op rfl (q_move rfl) ?_
          refine AOps.bool 27 rfl (fun a2 => ?_) (fun a2 => ?_)
          · skip
            have a2' := of_decide_eq_true a2
            refine y_op rfl (q_move rfl) ?_
            refine y_op rfl (q_int rfl rfl rfl) ?_
            refine y_op rfl (q_pick rfl rfl rfl rfl) ?_
            refine y_op rfl (Zaa rfl) ?_
            refine AOps.nil ?_
            refine ARun.ite rfl (fun b2 => ?_) (fun b2 => ?_)
            · skip
              have hv : digV c = c - 55 := by unfold digV; (repeat' split) <;> omega
              have hc1 : 65 ≤ c := by omega
              refine ARun.seq (ARun.region ?_)
              refine y_op rfl (q_move rfl) ?_
              refine y_op rfl (q_sub rfl rfl (show _ = ((c - 65 : Nat) : Int) by rw [IntKind.wrap_u8]; omega)) ?_
              refine y_op rfl (q_conv rfl rfl rfl (nconv_i64 (by omega))) ?_
              refine y_op rfl (q_add rfl rfl (nadd1_i64 (by omega))) ?_
              refine y_op rfl (Zaa rfl) ?_
              refine AOps.nil ?_
              refine ARun.ret ?_
              refine ⟨_, _, _, .tmp rfl .nil, .cons (.same _) .nil, rfl, ?_⟩
              rw [hv, show ((c - 55 : Nat) : Int) = ((c - 65 : Nat) : Int) + 10 by omega]; rfl
            · skip
              have hv : digV c = 36 := by unfold digV; (repeat' split) <;> omega
              refine ARun.skip (ARun.inBlock (ARun.seq (ARun.region ?_)))
              refine y_op rfl (Zaa rfl) ?_
              refine AOps.nil ?_
              refine ARun.ret ?_
              refine ⟨_, _, _, .tmp rfl .nil, .cons (.same _) .nil, rfl, ?_⟩
              rw [hv]; rfl
          · skip
            have a2' := of_decide_eq_false a2
            refine y_skip rfl ?_
            refine y_skip rfl ?_
            refine y_op rfl (q_pick rfl rfl rfl rfl) ?_
            refine y_op rfl (Zaa rfl) ?_
            refine AOps.nil ?_
            refine ARun.condF rfl ?_
            have hv : digV c = 36 := by unfold digV; (repeat' split) <;> omega
            refine ARun.skip (ARun.inBlock (ARun.seq (ARun.region ?_)))
            refine y_op rfl (Zaa rfl) ?_
            refine AOps.nil ?_
            refine ARun.ret ?_
            refine ⟨_, _, _, .tmp rfl .nil, .cons (.same _) .nil, rfl, ?_⟩
            rw [hv]; rfl
      · skip
        have a1' := of_decide_eq_false a1
        refine y_skip rfl ?_
        refine y_skip rfl ?_
        refine y_op rfl (q_pick rfl rfl rfl rfl) ?_
        refine y_op rfl (Zaa rfl) ?_
        refine AOps.nil ?_
        refine ARun.condF rfl ?_
        refine ARun.seq (ARun.region ?_)
        refine y_op rfl (q_move rfl) ?_
        refine y_op rfl (q_int rfl rfl rfl) ?_
        refine y_op rfl (q_move rfl) ?_
        refine AOps.bool 27 rfl (fun a2 => ?_) (fun a2 => ?_)
        · skip
          have a2' := of_decide_eq_true a2
          refine y_op rfl (q_move rfl) ?_
          refine y_op rfl (q_int rfl rfl rfl) ?_
          refine y_op rfl (q_pick rfl rfl rfl rfl) ?_
          refine y_op rfl (Zaa rfl) ?_
          refine AOps.nil ?_
          refine ARun.ite rfl (fun b2 => ?_) (fun b2 => ?_)
          · skip
            have hv : digV c = c - 55 := by unfold digV; (repeat' split) <;> omega
            have hc1 : 65 ≤ c := by omega
            refine ARun.seq (ARun.region ?_)
            refine y_op rfl (q_move rfl) ?_
            refine y_op rfl (q_sub rfl rfl (show _ = ((c - 65 : Nat) : Int) by rw [IntKind.wrap_u8]; omega)) ?_
            refine y_op rfl (q_conv rfl rfl rfl (nconv_i64 (by omega))) ?_
            refine y_op rfl (q_add rfl rfl (nadd1_i64 (by omega))) ?_
            refine y_op rfl (Zaa rfl) ?_
            refine AOps.nil ?_
            refine ARun.ret ?_
            refine ⟨_, _, _, .tmp rfl .nil, .cons (.same _) .nil, rfl, ?_⟩
            rw [hv, show ((c - 55 : Nat) : Int) = ((c - 65 : Nat) : Int) + 10 by omega]; rfl
          · skip
            have hv : digV c = 36 := by unfold digV; (repeat' split) <;> omega
            refine ARun.skip (ARun.inBlock (ARun.seq (ARun.region ?_)))
            refine y_op rfl (Zaa rfl) ?_
            refine AOps.nil ?_
            refine ARun.ret ?_
            refine ⟨_, _, _, .tmp rfl .nil, .cons (.same _) .nil, rfl, ?_⟩
            rw [hv]; rfl
        · skip
          have a2' := of_decide_eq_false a2
          refine y_skip rfl ?_
          refine y_skip rfl ?_
          refine y_op rfl (q_pick rfl rfl rfl rfl) ?_
          refine y_op rfl (Zaa rfl) ?_
          refine AOps.nil ?_
          refine ARun.condF rfl ?_
          have hv : digV c = 36 := by unfold digV; (repeat' split) <;> omega
          refine ARun.skip (ARun.inBlock (ARun.seq (ARun.region ?_)))
          refine y_op rfl (Zaa rfl) ?_
          refine AOps.nil ?_
          refine ARun.ret ?_
          refine ⟨_, _, _, .tmp rfl .nil, .cons (.same _) .nil, rfl, ?_⟩
          rw [hv]; rfl
  · skip
    have a0' := of_decide_eq_false a0
    refine y_skip rfl ?_
    refine y_skip rfl ?_
    refine y_op rfl (q_pick rfl rfl rfl rfl) ?_
    refine y_op rfl (Zaa rfl) ?_
    refine AOps.nil ?_
    refine ARun.condF rfl ?_
    refine ARun.seq (ARun.region ?_)
    refine y_op rfl (q_move rfl) ?_
    refine y_op rfl (q_int rfl rfl rfl) ?_
    refine y_op rfl (q_move rfl) ?_
    refine AOps.bool 16 rfl (fun a1 => ?_) (fun a1 => ?_)
    · skip
      have a1' := of_decide_eq_true a1
      refine y_op rfl (q_move rfl) ?_
      refine y_op rfl (q_int rfl rfl rfl) ?_
      refine y_op rfl (q_pick rfl rfl rfl rfl) ?_
      refine y_op rfl (Zaa rfl) ?_
      refine AOps.nil ?_
      refine ARun.ite rfl (fun b1 => ?_) (fun b1 => ?_)
      · skip
        have hv : digV c = c - 87 := by unfold digV; (repeat' split) <;> omega
        have hc1 : 97 ≤ c := by omega
        refine ARun.seq (ARun.region ?_)
        refine y_op rfl (q_move rfl) ?_
        refine y_op rfl (q_sub rfl rfl (show _ = ((c - 97 : Nat) : Int) by rw [IntKind.wrap_u8]; omega)) ?_
        refine y_op rfl (q_conv rfl rfl rfl (nconv_i64 (by omega))) ?_
        refine y_op rfl (q_add rfl rfl (nadd1_i64 (by omega))) ?_
        refine y_op rfl (Zaa rfl) ?_
        refine AOps.nil ?_
        refine ARun.ret ?_
        refine ⟨_, _, _, .tmp rfl .nil, .cons (.same _) .nil, rfl, ?_⟩
        rw [hv, show ((c - 87 : Nat) : Int) = ((c - 97 : Nat) : Int) + 10 by omega]; rfl
      · skip
        refine ARun.seq (ARun.region ?_)
        refine y_op rfl (q_move rfl) ?_
        refine y_op rfl (q_int rfl rfl rfl) ?_
        refine y_op rfl (q_move rfl) ?_
        refine AOps.bool 27 rfl (fun a2 => ?_) (fun a2 => ?_)
        · skip
          have a2' := of_decide_eq_true a2
          refine y_op rfl (q_move rfl) ?_
          refine y_op rfl (q_int rfl rfl rfl) ?_
          refine y_op rfl (q_pick rfl rfl rfl rfl) ?_
          refine y_op rfl (Zaa rfl) ?_
          refine AOps.nil ?_
          refine ARun.ite rfl (fun b2 => ?_) (fun b2 => ?_)
          · skip
            have hv : digV c = c - 55 := by unfold digV; (repeat' split) <;> omega
            have hc1 : 65 ≤ c := by omega
            refine ARun.seq (ARun.region ?_)
            refine y_op rfl (q_move rfl) ?_
            refine y_op rfl (q_sub rfl rfl (show _ = ((c - 65 : Nat) : Int) by rw [IntKind.wrap_u8]; omega)) ?_
            refine y_op rfl (q_conv rfl rfl rfl (nconv_i64 (by omega))) ?_
            refine y_op rfl (q_add rfl rfl (nadd1_i64 (by omega))) ?_
            refine y_op rfl (Zaa rfl) ?_
            refine AOps.nil ?_
            refine ARun.ret ?_
            refine ⟨_, _, _, .tmp rfl .nil, .cons (.same _) .nil, rfl, ?_⟩
            rw [hv, show ((c - 55 : Nat) : Int) = ((c - 65 : Nat) : Int) + 10 by omega]; rfl
          · skip
            have hv : digV c = 36 := by unfold digV; (repeat' split) <;> omega
            refine ARun.skip (ARun.inBlock (ARun.seq (ARun.region ?_)))
            refine y_op rfl (Zaa rfl) ?_
            refine AOps.nil ?_
            refine ARun.ret ?_
            refine ⟨_, _, _, .tmp rfl .nil, .cons (.same _) .nil, rfl, ?_⟩
            rw [hv]; rfl
        · skip
          have a2' := of_decide_eq_false a2
          refine y_skip rfl ?_
          refine y_skip rfl ?_
          refine y_op rfl (q_pick rfl rfl rfl rfl) ?_
          refine y_op rfl (Zaa rfl) ?_
          refine AOps.nil ?_
          refine ARun.condF rfl ?_
          have hv : digV c = 36 := by unfold digV; (repeat' split) <;> omega
          refine ARun.skip (ARun.inBlock (ARun.seq (ARun.region ?_)))
          refine y_op rfl (Zaa rfl) ?_
          refine AOps.nil ?_
          refine ARun.ret ?_
          refine ⟨_, _, _, .tmp rfl .nil, .cons (.same _) .nil, rfl, ?_⟩
          rw [hv]; rfl
    · skip
      have a1' := of_decide_eq_false a1
      refine y_skip rfl ?_
      refine y_skip rfl ?_
      refine y_op rfl (q_pick rfl rfl rfl rfl) ?_
      refine y_op rfl (Zaa rfl) ?_
      refine AOps.nil ?_
      refine ARun.condF rfl ?_
      refine ARun.seq (ARun.region ?_)
      refine y_op rfl (q_move rfl) ?_
      refine y_op rfl (q_int rfl rfl rfl) ?_
      refine y_op rfl (q_move rfl) ?_
      refine AOps.bool 27 rfl (fun a2 => ?_) (fun a2 => ?_)
      · skip
        have a2' := of_decide_eq_true a2
        refine y_op rfl (q_move rfl) ?_
        refine y_op rfl (q_int rfl rfl rfl) ?_
        refine y_op rfl (q_pick rfl rfl rfl rfl) ?_
        refine y_op rfl (Zaa rfl) ?_
        refine AOps.nil ?_
        refine ARun.ite rfl (fun b2 => ?_) (fun b2 => ?_)
        · skip
          have hv : digV c = c - 55 := by unfold digV; (repeat' split) <;> omega
          have hc1 : 65 ≤ c := by omega
          refine ARun.seq (ARun.region ?_)
          refine y_op rfl (q_move rfl) ?_
          refine y_op rfl (q_sub rfl rfl (show _ = ((c - 65 : Nat) : Int) by rw [IntKind.wrap_u8]; omega)) ?_
          refine y_op rfl (q_conv rfl rfl rfl (nconv_i64 (by omega))) ?_
          refine y_op rfl (q_add rfl rfl (nadd1_i64 (by omega))) ?_
          refine y_op rfl (Zaa rfl) ?_
          refine AOps.nil ?_
          refine ARun.ret ?_
          refine ⟨_, _, _, .tmp rfl .nil, .cons (.same _) .nil, rfl, ?_⟩
          rw [hv, show ((c - 55 : Nat) : Int) = ((c - 65 : Nat) : Int) + 10 by omega]; rfl
        · skip
          have hv : digV c = 36 := by unfold digV; (repeat' split) <;> omega
          refine ARun.skip (ARun.inBlock (ARun.seq (ARun.region ?_)))
          refine y_op rfl (Zaa rfl) ?_
          refine AOps.nil ?_
          refine ARun.ret ?_
          refine ⟨_, _, _, .tmp rfl .nil, .cons (.same _) .nil, rfl, ?_⟩
          rw [hv]; rfl
      · skip
        have a2' := of_decide_eq_false a2
        refine y_skip rfl ?_
        refine y_skip rfl ?_
        refine y_op rfl (q_pick rfl rfl rfl rfl) ?_
        refine y_op rfl (Zaa rfl) ?_
        refine AOps.nil ?_
        refine ARun.condF rfl ?_
        have hv : digV c = 36 := by unfold digV; (repeat' split) <;> omega
        refine ARun.skip (ARun.inBlock (ARun.seq (ARun.region ?_)))
        refine y_op rfl (Zaa rfl) ?_
        refine AOps.nil ?_
        refine ARun.ret ?_
        refine ⟨_, _, _, .tmp rfl .nil, .cons (.same _) .nil, rfl, ?_⟩
        rw [hv]; rfl
theorem Ze2 (c : Nat) (hc : c < 256) : PC C Zle [.int .u8 (c : Int)] (fun o => o = .ret (.int .i64 (if digV c = 36 then -1 else ((digV c : Nat) : Int)))) := by
  refine PC.run Zfi Zj9 rfl Zka rfl (rs := [.tmp 2]) (by rw [Zkb]) (by simp only [List.length_cons, List.length_nil, Nat.reduceAdd, Nat.reduceSub, List.replicate_succ, List.replicate_zero, List.cons_append, List.nil_append]; exact rfl) ?_
  refine ARun.seq (ARun.region ?_)
  refine y_op rfl (Zaa rfl) ?_
  refine AOps.nil (ARun.seq (ARun.block (ARun.seq (ARun.region ?_))))
  refine y_op rfl (q_move rfl) ?_
  refine y_op rfl (q_int rfl rfl rfl) ?_
  refine y_op rfl (q_move rfl) ?_
  refine AOps.bool 6 rfl (fun a0 => ?_) (fun a0 => ?_)
  · skip
    have a0' := of_decide_eq_true a0
    refine y_op rfl (q_move rfl) ?_
    refine y_op rfl (q_int rfl rfl rfl) ?_
    refine y_op rfl (q_pick rfl rfl rfl rfl) ?_
    refine y_op rfl (Zaa rfl) ?_
    refine AOps.nil ?_
    refine ARun.ite rfl (fun b0 => ?_) (fun b0 => ?_)
    · skip
      have hv : digV c = c - 48 := by unfold digV; (repeat' split) <;> omega
      have hc1 : 48 ≤ c := by omega
      refine ARun.seq (ARun.region ?_)
      refine y_op rfl (q_move rfl) ?_
      refine y_op rfl (q_sub rfl rfl (show _ = ((c - 48 : Nat) : Int) by rw [IntKind.wrap_u8]; omega)) ?_
      refine y_op rfl (q_conv rfl rfl rfl (nconv_i64 (by omega))) ?_
      refine y_op rfl (Zaa rfl) ?_
      refine AOps.nil ?_
      refine ARun.ret ?_
      refine ⟨_, _, _, .tmp rfl .nil, .cons (.same _) .nil, rfl, ?_⟩
      rw [if_neg (show ¬ digV c = 36 by omega)]; rw [hv, show ((c - 48 : Nat) : Int) = ((c - 48 : Nat) : Int) by omega]; rfl
    · skip
      refine ARun.seq (ARun.region ?_)
      refine y_op rfl (q_move rfl) ?_
      refine y_op rfl (q_int rfl rfl rfl) ?_
      refine y_op rfl (q_move rfl) ?_
      refine AOps.bool 16 rfl (fun a1 => ?_) (fun a1 => ?_)
      · skip
        have a1' := of_decide_eq_true a1
        refine y_op rfl (q_move rfl) ?_
        refine y_op rfl (q_int rfl rfl rfl) ?_
        refine y_op rfl (q_pick rfl rfl rfl rfl) ?_
        refine y_op rfl (Zaa rfl) ?_
        refine AOps.nil ?_
        refine ARun.ite rfl (fun b1 => ?_) (fun b1 => ?_)
        · skip
          have hv : digV c = c - 87 := by unfold digV; (repeat' split) <;> omega
          have hc1 : 97 ≤ c := by omega
          refine ARun.seq (ARun.region ?_)
          refine y_op rfl (q_move rfl) ?_
          refine y_op rfl (q_sub rfl rfl (show _ = ((c - 97 : Nat) : Int) by rw [IntKind.wrap_u8]; omega)) ?_
          refine y_op rfl (q_conv rfl rfl rfl (nconv_i64 (by omega))) ?_
          refine y_op rfl (q_add rfl rfl (nadd1_i64 (by omega))) ?_
          refine y_op rfl (Zaa rfl) ?_
          refine AOps.nil ?_
          refine ARun.ret ?_
          refine ⟨_, _, _, .tmp rfl .nil, .cons (.same _) .nil, rfl, ?_⟩
          rw [if_neg (show ¬ digV c = 36 by omega)]; rw [hv, show ((c - 87 : Nat) : Int) = ((c - 97 : Nat) : Int) + 10 by omega]; rfl
        · skip
          refine ARun.seq (ARun.region ?_)
          refine y_op rfl (q_move rfl) ?_
          refine y_op rfl (q_int rfl rfl rfl) ?_
          refine y_op rfl (q_move rfl) ?_
          refine AOps.bool 27 rfl (fun a2 => ?_) (fun a2 => ?_)
          · skip
            have a2' := of_decide_eq_true a2
            refine y_op rfl (q_move rfl) ?_
            refine y_op rfl (q_int rfl rfl rfl) ?_
            refine y_op rfl (q_pick rfl rfl rfl rfl) ?_
            refine y_op rfl (Zaa rfl) ?_
            refine AOps.nil ?_
            refine ARun.ite rfl (fun b2 => ?_) (fun b2 => ?_)
            · skip
              have hv : digV c = c - 55 := by unfold digV; (repeat' split) <;> omega
              have hc1 : 65 ≤ c := by omega
              refine ARun.seq (ARun.region ?_)
              refine y_op rfl (q_move rfl) ?_
              refine y_op rfl (q_sub rfl rfl (show _ = ((c - 65 : Nat) : Int) by rw [IntKind.wrap_u8]; omega)) ?_
              refine y_op rfl (q_conv rfl rfl rfl (nconv_i64 (by omega))) ?_
              refine y_op rfl (q_add rfl rfl (nadd1_i64 (by omega))) ?_
              refine y_op rfl (Zaa rfl) ?_
              refine AOps.nil ?_
              refine ARun.ret ?_
              refine ⟨_, _, _, .tmp rfl .nil, .cons (.same _) .nil, rfl, ?_⟩
              rw [if_neg (show ¬ digV c = 36 by omega)]; rw [hv, show ((c - 55 : Nat) : Int) = ((c - 65 : Nat) : Int) + 10 by omega]; rfl
            · skip
              have hv : digV c = 36 := by unfold digV; (repeat' split) <;> omega
              refine ARun.skip (ARun.inBlock (ARun.seq (ARun.region ?_)))
              refine y_op rfl (Zaa rfl) ?_
              refine AOps.nil ?_
              refine ARun.ret ?_
              refine ⟨_, _, _, .tmp rfl .nil, .cons (.same _) .nil, rfl, ?_⟩
              rw [hv]; rfl
          · skip
            have a2' := of_decide_eq_false a2
            refine y_skip rfl ?_
            refine y_skip rfl ?_
            refine y_op rfl (q_pick rfl rfl rfl rfl) ?_
            refine y_op rfl (Zaa rfl) ?_
            refine AOps.nil ?_
            refine ARun.condF rfl ?_
            have hv : digV c = 36 := by unfold digV; (repeat' split) <;> omega
            refine ARun.skip (ARun.inBlock (ARun.seq (ARun.region ?_)))
            refine y_op rfl (Zaa rfl) ?_
            refine AOps.nil ?_
            refine ARun.ret ?_
            refine ⟨_, _, _, .tmp rfl .nil, .cons (.same _) .nil, rfl, ?_⟩
            rw [hv]; rfl
      · skip
        have a1' := of_decide_eq_false a1
        refine y_skip rfl ?_
        refine y_skip rfl ?_
        refine y_op rfl (q_pick rfl rfl rfl rfl) ?_
        refine y_op rfl (Zaa rfl) ?_
        refine AOps.nil ?_
        refine ARun.condF rfl ?_
        refine ARun.seq (ARun.region ?_)
        refine y_op rfl (q_move rfl) ?_
        refine y_op rfl (q_int rfl rfl rfl) ?_
        refine y_op rfl (q_move rfl) ?_
        refine AOps.bool 27 rfl (fun a2 => ?_) (fun a2 => ?_)
        · skip
          have a2' := of_decide_eq_true a2
          refine y_op rfl (q_move rfl) ?_
          refine y_op rfl (q_int rfl rfl rfl) ?_
          refine y_op rfl (q_pick rfl rfl rfl rfl) ?_
          refine y_op rfl (Zaa rfl) ?_
          refine AOps.nil ?_
          refine ARun.ite rfl (fun b2 => ?_) (fun b2 => ?_)
          · skip
            have hv : digV c = c - 55 := by unfold digV; (repeat' split) <;> omega
            have hc1 : 65 ≤ c := by omega
            refine ARun.seq (ARun.region ?_)
            refine y_op rfl (q_move rfl) ?_
            refine y_op rfl (q_sub rfl rfl (show _ = ((c - 65 : Nat) : Int) by rw [IntKind.wrap_u8]; omega)) ?_
            refine y_op rfl (q_conv rfl rfl rfl (nconv_i64 (by omega))) ?_
            refine y_op rfl (q_add rfl rfl (nadd1_i64 (by omega))) ?_
            refine y_op rfl (Zaa rfl) ?_
            refine AOps.nil ?_
            refine ARun.ret ?_
            refine ⟨_, _, _, .tmp rfl .nil, .cons (.same _) .nil, rfl, ?_⟩
            rw [if_neg (show ¬ digV c = 36 by omega)]; rw [hv, show ((c - 55 : Nat) : Int) = ((c - 65 : Nat) : Int) + 10 by omega]; rfl
          · skip
            have hv : digV c = 36 := by unfold digV; (repeat' split) <;> omega
            refine ARun.skip (ARun.inBlock (ARun.seq (ARun.region ?_)))
            refine y_op rfl (Zaa rfl) ?_
            refine AOps.nil ?_
            refine ARun.ret ?_
            refine ⟨_, _, _, .tmp rfl .nil, .cons (.same _) .nil, rfl, ?_⟩
            rw [hv]; rfl
        · skip
          have a2' := of_decide_eq_false a2
          refine y_skip rfl ?_
          refine y_skip rfl ?_
          refine y_op rfl (q_pick rfl rfl rfl rfl) ?_
          refine y_op rfl (Zaa rfl) ?_
          refine AOps.nil ?_
          refine ARun.condF rfl ?_
          have hv : digV c = 36 := by unfold digV; (repeat' split) <;> omega
          refine ARun.skip (ARun.inBlock (ARun.seq (ARun.region ?_)))
          refine y_op rfl (Zaa rfl) ?_
          refine AOps.nil ?_
          refine ARun.ret ?_
          refine ⟨_, _, _, .tmp rfl .nil, .cons (.same _) .nil, rfl, ?_⟩
          rw [hv]; rfl
  · skip
    have a0' := of_decide_eq_false a0
    refine y_skip rfl ?_
    refine y_skip rfl ?_
    refine y_op rfl (q_pick rfl rfl rfl rfl) ?_
    refine y_op rfl (Zaa rfl) ?_
    refine AOps.nil ?_
    refine ARun.condF rfl ?_
    refine ARun.seq (ARun.region ?_)
    refine y_op rfl (q_move rfl) ?_
    refine y_op rfl (q_int rfl rfl rfl) ?_
    refine y_op rfl (q_move rfl) ?_
    refine AOps.bool 16 rfl (fun a1 => ?_) (fun a1 => ?_)
    · skip
      have a1' := of_decide_eq_true a1
      refine y_op rfl (q_move rfl) ?_
      refine y_op rfl (q_int rfl rfl rfl) ?_
      refine y_op rfl (q_pick rfl rfl rfl rfl) ?_
      refine y_op rfl (Zaa rfl) ?_
      refine AOps.nil ?_
      refine ARun.ite rfl (fun b1 => ?_) (fun b1 => ?_)
      · skip
        have hv : digV c = c - 87 := by unfold digV; (repeat' split) <;> omega
        have hc1 : 97 ≤ c := by omega
        refine ARun.seq (ARun.region ?_)
        refine y_op rfl (q_move rfl) ?_
        refine y_op rfl (q_sub rfl rfl (show _ = ((c - 97 : Nat) : Int) by rw [IntKind.wrap_u8]; omega)) ?_
        refine y_op rfl (q_conv rfl rfl rfl (nconv_i64 (by omega))) ?_
        refine y_op rfl (q_add rfl rfl (nadd1_i64 (by omega))) ?_
        refine y_op rfl (Zaa rfl) ?_
        refine AOps.nil ?_
        refine ARun.ret ?_
        refine ⟨_, _, _, .tmp rfl .nil, .cons (.same _) .nil, rfl, ?_⟩
        rw [if_neg (show ¬ digV c = 36 by omega)]; rw [hv, show ((c - 87 : Nat) : Int) = ((c - 97 : Nat) : Int) + 10 by omega]; rfl
      · skip
        refine ARun.seq (ARun.region ?_)
        refine y_op rfl (q_move rfl) ?_
        refine y_op rfl (q_int rfl rfl rfl) ?_
        refine y_op rfl (q_move rfl) ?_
        refine AOps.bool 27 rfl (fun a2 => ?_) (fun a2 => ?_)
        · skip
          have a2' := of_decide_eq_true a2
          refine y_op rfl (q_move rfl) ?_
          refine y_op rfl (q_int rfl rfl rfl) ?_
          refine y_op rfl (q_pick rfl rfl rfl rfl) ?_
          refine y_op rfl (Zaa rfl) ?_
          refine AOps.nil ?_
          refine ARun.ite rfl (fun b2 => ?_) (fun b2 => ?_)
          · skip
            have hv : digV c = c - 55 := by unfold digV; (repeat' split) <;> omega
            have hc1 : 65 ≤ c := by omega
            refine ARun.seq (ARun.region ?_)
            refine y_op rfl (q_move rfl) ?_
            refine y_op rfl (q_sub rfl rfl (show _ = ((c - 65 : Nat) : Int) by rw [IntKind.wrap_u8]; omega)) ?_
            refine y_op rfl (q_conv rfl rfl rfl (nconv_i64 (by omega))) ?_
            refine y_op rfl (q_add rfl rfl (nadd1_i64 (by omega))) ?_
            refine y_op rfl (Zaa rfl) ?_
            refine AOps.nil ?_
            refine ARun.ret ?_
            refine ⟨_, _, _, .tmp rfl .nil, .cons (.same _) .nil, rfl, ?_⟩
            rw [if_neg (show ¬ digV c = 36 by omega)]; rw [hv, show ((c - 55 : Nat) : Int) = ((c - 65 : Nat) : Int) + 10 by omega]; rfl
          · skip
            have hv : digV c = 36 := by unfold digV; (repeat' split) <;> omega
            refine ARun.skip (ARun.inBlock (ARun.seq (ARun.region ?_)))
            refine y_op rfl (Zaa rfl) ?_
            refine AOps.nil ?_
            refine ARun.ret ?_
            refine ⟨_, _, _, .tmp rfl .nil, .cons (.same _) .nil, rfl, ?_⟩
            rw [hv]; rfl
        · skip
          have a2' := of_decide_eq_false a2
          refine y_skip rfl ?_
          refine y_skip rfl ?_
          refine y_op rfl (q_pick rfl rfl rfl rfl) ?_
          refine y_op rfl (Zaa rfl) ?_
          refine AOps.nil ?_
          refine ARun.condF rfl ?_
          have hv : digV c = 36 := by unfold digV; (repeat' split) <;> omega
          refine ARun.skip (ARun.inBlock (ARun.seq (ARun.region ?_)))
          refine y_op rfl (Zaa rfl) ?_
          refine AOps.nil ?_
          refine ARun.ret ?_
          refine ⟨_, _, _, .tmp rfl .nil, .cons (.same _) .nil, rfl, ?_⟩
          rw [hv]; rfl
    · skip
      have a1' := of_decide_eq_false a1
      refine y_skip rfl ?_
      refine y_skip rfl ?_
      refine y_op rfl (q_pick rfl rfl rfl rfl) ?_
      refine y_op rfl (Zaa rfl) ?_
      refine AOps.nil ?_
      refine ARun.condF rfl ?_
      refine ARun.seq (ARun.region ?_)
      refine y_op rfl (q_move rfl) ?_
      refine y_op rfl (q_int rfl rfl rfl) ?_
      refine y_op rfl (q_move rfl) ?_
      refine AOps.bool 27 rfl (fun a2 => ?_) (fun a2 => ?_)
      · skip
        have a2' := of_decide_eq_true a2
        refine y_op rfl (q_move rfl) ?_
        refine y_op rfl (q_int rfl rfl rfl) ?_
        refine y_op rfl (q_pick rfl rfl rfl rfl) ?_
        refine y_op rfl (Zaa rfl) ?_
        refine AOps.nil ?_
        refine ARun.ite rfl (fun b2 => ?_) (fun b2 => ?_)
        · skip
          have hv : digV c = c - 55 := by unfold digV; (repeat' split) <;> omega
          have hc1 : 65 ≤ c := by omega
          refine ARun.seq (ARun.region ?_)
          refine y_op rfl (q_move rfl) ?_
          refine y_op rfl (q_sub rfl rfl (show _ = ((c - 65 : Nat) : Int) by rw [IntKind.wrap_u8]; omega)) ?_
          refine y_op rfl (q_conv rfl rfl rfl (nconv_i64 (by omega))) ?_
          refine y_op rfl (q_add rfl rfl (nadd1_i64 (by omega))) ?_
          refine y_op rfl (Zaa rfl) ?_
          refine AOps.nil ?_
          refine ARun.ret ?_
          refine ⟨_, _, _, .tmp rfl .nil, .cons (.same _) .nil, rfl, ?_⟩
          rw [if_neg (show ¬ digV c = 36 by omega)]; rw [hv, show ((c - 55 : Nat) : Int) = ((c - 65 : Nat) : Int) + 10 by omega]; rfl
        · skip
          have hv : digV c = 36 := by unfold digV; (repeat' split) <;> omega
          refine ARun.skip (ARun.inBlock (ARun.seq (ARun.region ?_)))
          refine y_op rfl (Zaa rfl) ?_
          refine AOps.nil ?_
          refine ARun.ret ?_
          refine ⟨_, _, _, .tmp rfl .nil, .cons (.same _) .nil, rfl, ?_⟩
          rw [hv]; rfl
      · skip
        have a2' := of_decide_eq_false a2
        refine y_skip rfl ?_
        refine y_skip rfl ?_
        refine y_op rfl (q_pick rfl rfl rfl rfl) ?_
        refine y_op rfl (Zaa rfl) ?_
        refine AOps.nil ?_
        refine ARun.condF rfl ?_
        have hv : digV c = 36 := by unfold digV; (repeat' split) <;> omega
        refine ARun.skip (ARun.inBlock (ARun.seq (ARun.region ?_)))
        refine y_op rfl (Zaa rfl) ?_
        refine AOps.nil ?_
        refine ARun.ret ?_
        refine ⟨_, _, _, .tmp rfl .nil, .cons (.same _) .nil, rfl, ?_⟩
        rw [hv]; rfl
theorem digV_lt (c : Nat) : digV c ≤ 36 := by unfold digV; (repeat' split) <;> omega
theorem Zfp (c : Nat) (hc : c < 256) (b : Nat) (hb : b ≤ 36) : PC C ZiT [.int .u8 (c : Int), .int .i64 (b : Int)] (fun o => o = .ret (.bool (decide (digV c < b)))) := by
  refine PC.run ZdE ZhF rfl ZhG rfl (rs := [.tmp 4]) (by rw [ZhH]) (by simp only [List.length_cons, List.length_nil, Nat.reduceAdd, Nat.reduceSub, List.replicate_succ, List.replicate_zero, List.cons_append, List.nil_append]; exact rfl) ?_
  refine ARun.seq (ARun.region ?_)
  refine y_op rfl (Zaa rfl) ?_
  refine AOps.nil (ARun.seq (ARun.region ?_))
  refine y_op rfl (q_move rfl) ?_
  refine y_op rfl (q_call rfl rfl (Ze2 c hc)) ?_
  refine y_op rfl (q_int rfl rfl rfl) ?_
  refine y_op rfl (q_move rfl) ?_
  refine AOps.bool 8 rfl (fun g => ?_) (fun g => ?_)
  · skip
    have g := of_decide_eq_true g
    have hn : ¬ digV c = 36 := by intro h; rw [if_pos h] at g; omega
    refine y_op rfl (q_move rfl) ?_
    refine y_op rfl (q_call rfl rfl (Ze2 c hc)) ?_
    refine y_op rfl (q_move rfl) ?_
    refine y_op rfl (q_int rfl rfl rfl) ?_
    refine y_op rfl (q_pick rfl rfl rfl rfl) ?_
    refine y_op rfl (Zaa rfl) ?_
    refine AOps.nil ?_
    refine ARun.ret ?_
    refine ⟨_, _, _, .tmp rfl .nil, .cons (.same _) .nil, rfl, ?_⟩
    rw [if_neg hn]
    have : decide (((digV c : Nat) : Int) < (b : Int)) = decide (digV c < b) := decide_eq_decide.2 (by omega)
    rw [← this]; rfl
  · skip
    have g := of_decide_eq_false g
    have hn : digV c = 36 := by
      apply Classical.byContradiction
      intro h; rw [if_neg h] at g; omega
    refine y_skip rfl ?_
    refine y_skip rfl ?_
    refine y_skip rfl ?_
    refine y_skip rfl ?_
    refine y_op rfl (q_pick rfl rfl rfl rfl) ?_
    refine y_op rfl (Zaa rfl) ?_
    refine AOps.nil ?_
    refine ARun.ret ?_
    refine ⟨_, _, _, .tmp rfl .nil, .cons (.same _) .nil, rfl, ?_⟩
    rw [hn, decide_eq_false (show ¬ 36 < b by omega)]
    rfl
end Go.V
set_option maxHeartbeats 2000000
set_option synthInstance.maxSize 100000
set_option synthInstance.maxHeartbeats 2000000
namespace Go.V
open Go.RowKit Go.Proofs
def upN (n : Nat) : Nat := if 97 ≤ n ∧ n ≤ 122 then n - 32 else n
theorem up_byte (n : Nat) (h : n < 128) : Lib.upperB (UInt8.ofNat n) = UInt8.ofNat (upN n) := by
  have key : ∀ m : _root_.Fin 128, Lib.upperB (UInt8.ofNat m.val) = UInt8.ofNat (upN m.val) := by decide
  exact key ⟨n, h⟩
theorem up_bytes {l : List Nat} (h : ∀ n ∈ l, n < 128) : Lib.toUpperA (bytesOf l).data.toList = (l.map upN).map UInt8.ofNat := by
  unfold Lib.toUpperA bytesOf
  simp only [List.map_map]
  apply List.map_congr_left
  intro n hn
  exact up_byte n (h n hn)
theorem bytesOf_size (l : List Nat) : (bytesOf l).size = l.length := by simp [bytesOf, ByteArray.size]
theorem bytesOf_append (l m : List Nat) : bytesOf (l ++ m) = bytesOf l ++ bytesOf m := by
  apply ByteArray.ext
  simp [bytesOf]
theorem Zmq (l : List Nat) (h : ∀ n ∈ l, n < 128) (hl : l.length ≤ 140737488355328) : PC C ZeB [.str (bytesOf l)] (fun o => o = .ret (.str (bytesOf (l.map upN)))) := by
  refine PC.of_below Zeg (v := .string (bytesOf (l.map upN))) (fun _ _ _ _ => by simp only [VR]) fun w L μ H vs hv => ?_
  simp only [VRs, VR] at hv
  obtain ⟨v, us, rfl, rfl, rfl⟩ := hv
  have h1 := toUpper_calls (bytesOf l) w (by rw [bytesOf_size]; exact hl) (by
    intro j b hb
    have hm := List.mem_of_getElem? hb
    simp only [bytesOf, List.mem_map] at hm
    obtain ⟨n, hn, rfl⟩ := hm
    have := h n hn
    simp only [UInt8.toNat_ofNat']
    omega)
  rw [up_bytes h] at h1
  exact h1
def strZ (b : Nat) (up : Bool) (z : Int) : List Nat := (bif decide (z < 0) then [45] else []) ++ (bif up then (txt b z.natAbs).map upN else txt b z.natAbs)
def textR (d : Bool × List Nat) (base : Int) (up : Bool) : List Nat × Int := bif okI d && (decide (2 ≤ base) && decide (base ≤ 36)) then (strZ base.toNat up (valI d), 0) else ([], 1)
theorem txt_ascii {b : Nat} (hb : 2 ≤ b) (h36 : b ≤ 36) (v : Nat) : ∀ n ∈ txt b v, n < 128 := by
  intro n hn
  unfold txt at hn
  split at hn
  · simp at hn; omega
  · rw [List.mem_reverse] at hn
    obtain ⟨d, hd, rfl⟩ := List.mem_map.1 hn
    have := dgs_lt hb v d hd
    unfold fig; split <;> omega
theorem txt_len {b : Nat} (hb : 2 ≤ b) {a : Nat} (ha : (lim a).length ≤ 1024) : (txt b a).length ≤ 32768 := by
  unfold txt; split
  · decide
  · simpa using dgs_fit hb ha
theorem Zez (d : Bool × List Nat) (hd : U32 d.2) (base : Int) (up : Bool) : PC C ZcY [intA d.1 d.2, .int .i64 base, .bool up] (fun o => o = .ret (.tup [.str (bytesOf (textR d base up).1), .int .i64 (textR d base up).2])) := by
  refine PC.run Zd9 Ziy rfl Ziz rfl (rs := [.tmp 6, .tmp 7]) (by rw [ZiA]) (by simp only [List.length_cons, List.length_nil, Nat.reduceAdd, Nat.reduceSub, List.replicate_succ, List.replicate_zero, List.cons_append, List.nil_append]; exact rfl) ?_
  refine ARun.seq (ARun.region ?_)
  refine y_op rfl (q_boxF rfl rfl rfl rfl) ?_
  refine y_op rfl (Zaa rfl) ?_
  refine y_op rfl (Zaa rfl) ?_
  refine AOps.nil (ARun.seq (ARun.seq (ARun.region ?_)))
  refine y_op rfl (Zai rfl rfl rfl rfl rfl) ?_
  refine y_op rfl (q_call rfl rfl (Ze1 d)) ?_
  refine y_op rfl (q_not rfl) ?_
  refine y_op rfl (q_move rfl) ?_
  refine AOps.bool 12 rfl (fun h1 => ?_) (fun h1 => ?_)
  · skip
    have h1 : okI d = false := by simpa using h1
    refine y_skip rfl ?_
    refine y_skip rfl ?_
    refine y_op rfl (q_pick rfl rfl rfl rfl) ?_
    refine y_op rfl (q_move rfl) ?_
    refine y_skip rfl ?_
    refine y_skip rfl ?_
    refine y_op rfl (q_pick rfl rfl rfl rfl) ?_
    refine AOps.nil ?_
    refine ARun.condT rfl ?_
    refine ARun.seq (ARun.region ?_)
    refine y_op rfl (Zaa rfl) ?_
    refine y_op rfl (Zaa rfl) ?_
    refine AOps.nil ?_
    refine ARun.ret ?_
    refine ⟨_, _, _, .tmp rfl (.tmp rfl .nil), .cons (.same _) (.cons (.same _) .nil), rfl, ?_⟩
    unfold textR; rw [h1]; rfl
  · skip
    have h1 : okI d = true := by simpa using h1
    obtain ⟨z, rfl, fz⟩ := okI_int hd h1
    refine y_op rfl (q_move rfl) ?_
    refine y_op rfl (q_int rfl rfl rfl) ?_
    refine y_op rfl (q_pick rfl rfl rfl rfl) ?_
    refine y_op rfl (q_move rfl) ?_
    refine AOps.bool 16 rfl (fun h2 => ?_) (fun h2 => ?_)
    · skip
      have h2 := of_decide_eq_true h2
      refine y_skip rfl ?_
      refine y_skip rfl ?_
      refine y_op rfl (q_pick rfl rfl rfl rfl) ?_
      refine AOps.nil ?_
      refine ARun.condT rfl ?_
      refine ARun.seq (ARun.region ?_)
      refine y_op rfl (Zaa rfl) ?_
      refine y_op rfl (Zaa rfl) ?_
      refine AOps.nil ?_
      refine ARun.ret ?_
      refine ⟨_, _, _, .tmp rfl (.tmp rfl .nil), .cons (.same _) (.cons (.same _) .nil), rfl, ?_⟩
      unfold textR; rw [h1, decide_eq_false (show ¬ 2 ≤ base by omega)]; rfl
    · skip
      have h2 := of_decide_eq_false h2
      refine y_op rfl (q_move rfl) ?_
      refine y_op rfl (q_int rfl rfl rfl) ?_
      refine y_op rfl (q_pick rfl rfl rfl rfl) ?_
      refine AOps.nil ?_
      refine ARun.cond rfl (fun h3 => ?_) (fun h3 => ?_)
      · skip
        have h3 := of_decide_eq_true h3
        refine ARun.seq (ARun.region ?_)
        refine y_op rfl (Zaa rfl) ?_
        refine y_op rfl (Zaa rfl) ?_
        refine AOps.nil ?_
        refine ARun.ret ?_
        refine ⟨_, _, _, .tmp rfl (.tmp rfl .nil), .cons (.same _) (.cons (.same _) .nil), rfl, ?_⟩
        unfold textR; rw [h1, decide_eq_true (show 2 ≤ base by omega), decide_eq_false (show ¬ base ≤ 36 by omega)]; rfl
      · skip
        have h3 := of_decide_eq_false h3
        obtain ⟨b, rfl⟩ : ∃ b : Nat, base = b := ⟨base.toNat, by omega⟩
        have hb2 : 2 ≤ b := by omega
        have hb36 : b ≤ 36 := by omega
        have hR : textR (decide (z < 0), lim z.natAbs) (b : Int) up = (strZ b up z, 0) := by
          unfold textR; rw [h1, decide_eq_true (show (2 : Int) ≤ (b : Int) by omega), decide_eq_true (show (b : Int) ≤ 36 by omega), valI_int]; rfl
        rw [hR]
        have hlen := txt_len hb2 (a := z.natAbs) fz
        refine ARun.skip (ARun.seq (ARun.region ?_))
        refine y_op rfl (q_fldS rfl rfl rfl (by decide)) ?_
        refine y_op rfl (q_load rfl rfl rfl rfl) ?_
        refine y_op rfl (q_move rfl) ?_
        refine y_op rfl (q_call rfl rfl (Znc z.natAbs b fz hb2 hb36)) ?_
        refine y_op rfl (Zaa rfl) ?_
        refine AOps.nil (ARun.seq (ARun.seq (ARun.region ?_)))
        refine y_op rfl (q_move rfl) ?_
        refine AOps.nil ?_
        refine ARun.join (S := List Nat) (fun l : List Nat => [(25, .any), (26, .any), (8, .str (bytesOf l))]) (fun l : List Nat => l = (bif up then (txt b z.natAbs).map upN else txt b z.natAbs)) (fun run => ?_) ?_
        · skip
          refine ARun.cond rfl (fun h4 => ?_) (fun h4 => ?_)
          · skip
            refine ARun.region ?_
            refine y_op rfl (q_move rfl) ?_
            refine y_op rfl (q_call rfl rfl (Zmq (txt b z.natAbs) (txt_ascii hb2 hb36 _) (by omega))) ?_
            refine y_op rfl (Zaa rfl) ?_
            refine AOps.nil ?_
            exact ARun.again (run ((txt b z.natAbs).map upN) ((by rw [h4]; rfl))) (by (repeat' first | exact envLe_nil | apply envLe_any | apply envLe_same)) rfl
          · skip
            refine ARun.skip ?_
            exact ARun.again (run ((txt b z.natAbs)) ((by rw [h4]; rfl))) (by (repeat' first | exact envLe_nil | apply envLe_any | apply envLe_same)) rfl
        · rintro l hj
          try dsimp only at hj ⊢
          subst hj
          refine ARun.seq (ARun.seq (ARun.region ?_))
          refine y_op rfl (q_fldS rfl rfl rfl (by decide)) ?_
          refine y_op rfl (q_load rfl rfl rfl rfl) ?_
          refine AOps.nil ?_
          refine ARun.join (S := List Nat) (fun l : List Nat => [(29, .any), (30, .any), (8, .str (bytesOf l))]) (fun l : List Nat => l = strZ b up z) (fun run => ?_) ?_
          · skip
            refine ARun.cond rfl (fun h5 => ?_) (fun h5 => ?_)
            · skip
              refine ARun.region ?_
              refine y_op rfl (q_move rfl) ?_
              refine y_op rfl (Ziq rfl rfl (by rw [bytesOf_size]; show 1 + _ ≤ _; cases up <;> simp <;> omega)) ?_
              rw [show (⟨#[45]⟩ : ByteArray) ++ bytesOf (bif up then (txt b z.natAbs).map upN else txt b z.natAbs) = bytesOf (strZ b up z) by unfold strZ; rw [h5]; exact (bytesOf_append [45] _).symm]
              refine y_op rfl (Zaa rfl) ?_
              refine AOps.nil ?_
              exact ARun.again (run ((strZ b up z)) (rfl)) (by (repeat' first | exact envLe_nil | apply envLe_any | apply envLe_same)) rfl
            · skip
              refine ARun.skip ?_
              exact ARun.again (run ((bif up then (txt b z.natAbs).map upN else txt b z.natAbs)) ((by unfold strZ; rw [h5]; rfl))) (by (repeat' first | exact envLe_nil | apply envLe_any | apply envLe_same)) rfl
          · rintro l hj
            try dsimp only at hj ⊢
            subst hj
            refine ARun.seq (ARun.region ?_)
            refine y_op rfl (q_move rfl) ?_
            refine y_op rfl (Zaa rfl) ?_
            refine y_op rfl (Zaa rfl) ?_
            refine AOps.nil ?_
            refine ARun.ret ?_
            refine ⟨_, _, _, .tmp rfl (.tmp rfl .nil), .cons (.same _) (.cons (.same _) .nil), rfl, ?_⟩
            rfl
end Go.V
set_option maxHeartbeats 2000000
set_option synthInstance.maxSize 100000
set_option synthInstance.maxHeartbeats 2000000
namespace Go.V
open Go.RowKit Go.Proofs
theorem nts_snoc {k : IntKind} {xs : List Nat} {x : Nat} : nts k xs ++ [.int k (x : Int)] = nts k (xs ++ [x]) := by simp [nts]
theorem nts_length {k : IntKind} {xs : List Nat} : (nts k xs).length = xs.length := by simp [nts]
theorem sln_len {k : IntKind} {xs : List Nat} : D.sl (nts k xs).length (nts k xs) = sln k xs := by rw [nts_length]
theorem Zn0 (xs : List Nat) (hx : U32 xs) (i : Nat) : PC C Zlw [sln .u32 xs, .int .i64 (i : Int)] (fun o => o = .ret (.int .u64 ((xs.getD i 0 : Nat) : Int))) := by
  refine PC.run ZjY ZmS rfl ZmT rfl (rs := [.tmp 4]) (by rw [ZmU]) (by simp only [List.length_cons, List.length_nil, Nat.reduceAdd, Nat.reduceSub, List.replicate_succ, List.replicate_zero, List.cons_append, List.nil_append]; exact rfl) ?_
  have hd := hx.get i
  refine ARun.seq (ARun.region ?_)
  refine y_op rfl (Zaa rfl) ?_
  refine AOps.nil (ARun.seq (ARun.seq (ARun.region ?_)))
  refine y_op rfl (q_move rfl) ?_
  refine y_op rfl (q_move rfl) ?_
  refine y_op rfl (Zac rfl rfl) ?_
  refine y_op rfl (q_int rfl rfl rfl) ?_
  refine AOps.nil ?_
  refine ARun.ite rfl (fun h => ?_) (fun h => ?_)
  · skip
    refine ARun.seq (ARun.region ?_)
    refine y_op rfl (Zaa rfl) ?_
    refine AOps.nil ?_
    refine ARun.ret ?_
    refine ⟨_, _, _, .tmp rfl .nil, .cons (.same _) .nil, rfl, ?_⟩
    rw [getD_ge (by omega)]
    rfl
  · skip
    refine ARun.skip (ARun.seq (ARun.region ?_))
    refine y_op rfl (q_move rfl) ?_
    refine y_op rfl (q_move rfl) ?_
    refine y_op rfl (Zam (i := i) rfl rfl rfl rfl (by omega) (by omega) (nts_ne (by omega)) (drop_nat rfl)) ?_
    refine y_op rfl (q_load rfl rfl rfl (nts_load (i := i) (by omega))) ?_
    refine y_op rfl (q_conv rfl rfl rfl (nconv_u64 (by omega))) ?_
    refine y_op rfl (Zaa rfl) ?_
    refine AOps.nil ?_
    refine ARun.ret ?_
    refine ⟨_, _, _, .tmp rfl .nil, .cons (.same _) .nil, rfl, ?_⟩
    rfl
theorem ZaZ (a i : Nat) : PC C Zlw [numD a, .int .i64 (i : Int)] (fun o => o = .ret (.int .u64 ((dig a i : Nat) : Int))) :=
  (Zn0 (lim a) (U32_lim a) i).mono fun o ho => by rw [ho, lim_get]
theorem Zmr (xs : List Nat) : PC C Zk5 [sln .u32 xs] (fun o => o = .ret (.bool (okB xs))) := by
  refine PC.run Zfe ZjQ rfl ZjR rfl (rs := [.tmp 2]) (by rw [ZjS]) (by simp only [List.length_cons, List.length_nil, Nat.reduceAdd, Nat.reduceSub, List.replicate_succ, List.replicate_zero, List.cons_append, List.nil_append]; exact rfl) ?_
  refine ARun.lenle 0 rfl (fun hlen => ?_)
  rw [maxLen_eq] at hlen
  refine ARun.seq (ARun.region ?_)
  refine y_op rfl (Zaa rfl) ?_
  refine AOps.nil (ARun.seq (ARun.region ?_))
  refine y_op rfl (q_move rfl) ?_
  refine y_op rfl (Zac rfl rfl) ?_
  refine y_op rfl (q_int rfl rfl rfl) ?_
  refine y_op rfl (q_move rfl) ?_
  refine AOps.bool 6 rfl (fun h1 => ?_) (fun h1 => ?_)
  · skip
    replace h1 := of_decide_eq_true h1
    refine y_op rfl (q_move rfl) ?_
    refine y_op rfl (Zac rfl rfl) ?_
    refine y_op rfl (q_int rfl rfl rfl) ?_
    refine y_op rfl (q_move rfl) ?_
    refine AOps.bool 10 rfl (fun h2 => ?_) (fun h2 => ?_)
    · skip
      replace h2 : (xs.length : Int) = 0 := by simpa using h2
      refine y_skip rfl ?_
      refine y_skip rfl ?_
      refine y_skip rfl ?_
      refine y_skip rfl ?_
      refine y_skip rfl ?_
      refine y_skip rfl ?_
      refine y_skip rfl ?_
      refine y_op rfl (q_pick rfl rfl rfl rfl) ?_
      refine y_op rfl (q_pick rfl rfl rfl rfl) ?_
      refine y_op rfl (Zaa rfl) ?_
      refine AOps.nil ?_
      refine ARun.ret ?_
      refine ⟨_, _, _, .tmp rfl .nil, .cons (.same _) .nil, rfl, ?_⟩
      rw [okB_iff.2 (okNat_iff.2 ⟨by omega, .inl (by omega)⟩)]
      rfl
    · skip
      replace h2 : ¬ (xs.length : Int) = 0 := by simpa using h2
      refine y_op rfl (q_move rfl) ?_
      refine y_op rfl (q_move rfl) ?_
      refine y_op rfl (Zac rfl rfl) ?_
      refine y_op rfl (q_sub rfl rfl (nsub1_i64 (by omega) (by omega))) ?_
      refine y_op rfl (Zam rfl rfl rfl rfl (by omega) (by omega) (nts_ne (by omega)) (drop_nat rfl)) ?_
      refine y_op rfl (q_load rfl rfl rfl (nts_load (by omega))) ?_
      refine y_op rfl (q_int rfl rfl rfl) ?_
      refine y_op rfl (q_pick rfl rfl rfl rfl) ?_
      refine y_op rfl (q_pick rfl rfl rfl rfl) ?_
      refine y_op rfl (Zaa rfl) ?_
      refine AOps.nil ?_
      refine ARun.ret ?_
      refine ⟨_, _, _, .tmp rfl .nil, .cons (.same _) .nil, rfl, ?_⟩
      have e : okB xs = (((xs.getD (xs.length - 1) 0 : Nat) : Int) != 0) := by
        by_cases hz : xs.getD (xs.length - 1) 0 = 0
        · have : ¬ okNat xs := fun x => by
            rcases (okNat_iff.1 x).2 with y | y
            · omega
            · exact y hz
          rw [okB_not.2 this, hz]
          rfl
        · rw [okB_iff.2 (okNat_iff.2 ⟨by omega, .inr hz⟩)]
          have : ¬ ((xs.getD (xs.length - 1) 0 : Nat) : Int) = 0 := by omega
          simp only [bne, beq_eq_false_iff_ne.2 this, Bool.not_false]
      rw [e]
      rfl
  · skip
    replace h1 := of_decide_eq_false h1
    refine y_skip rfl ?_
    refine y_skip rfl ?_
    refine y_skip rfl ?_
    refine y_skip rfl ?_
    refine y_skip rfl ?_
    refine y_skip rfl ?_
    refine y_skip rfl ?_
    refine y_skip rfl ?_
    refine y_skip rfl ?_
    refine y_skip rfl ?_
    refine y_skip rfl ?_
    refine y_skip rfl ?_
    refine y_op rfl (q_pick rfl rfl rfl rfl) ?_
    refine y_op rfl (Zaa rfl) ?_
    refine AOps.nil ?_
    refine ARun.ret ?_
    refine ⟨_, _, _, .tmp rfl .nil, .cons (.same _) .nil, rfl, ?_⟩
    have : ¬ okNat xs := fun x => by have := x.1; omega
    rw [okB_not.2 this]
    rfl
theorem Zch (xs : List Nat) (hx : U32 xs) (hl : xs.length ≤ 35184372088832) : PC C Zb7 [sln .u32 xs] (fun o => o = .ret (numD (val xs))) := by
  refine PC.run ZdR ZgM rfl ZgN rfl (rs := [.tmp 2]) (by rw [ZgO]) (by simp only [List.length_cons, List.length_nil, Nat.reduceAdd, Nat.reduceSub, List.replicate_succ, List.replicate_zero, List.cons_append, List.nil_append]; exact rfl) ?_
  refine ARun.seq (ARun.region ?_)
  refine y_op rfl (Zaa rfl) ?_
  refine AOps.nil (ARun.seq (ARun.region ?_))
  refine y_op rfl (q_move rfl) ?_
  refine y_op rfl (Zac rfl rfl) ?_
  refine y_op rfl (Zaa rfl) ?_
  refine AOps.nil (ARun.seq (ARun.block ?_))
  refine ARun.loopI (S := Nat) (fun n : Nat => [(6, .any), (7, .any), (8, .any), (9, .any), (10, .any), (11, .any), (12, .any), (13, .any), (14, .any), (15, .any), (16, .any), (17, .any), (3, .int .i64 (n : Int))]) (fun n : Nat => []) (fun n : Nat => n ≤ xs.length ∧ val (xs.take n) = val xs) (fun n : Nat => n) (xs.length) ?_ ?_ ?_ ?_
  · exact ⟨Nat.le_refl _, by rw [List.take_length]⟩
  · (repeat' first | exact envLe_nil | apply envLe_any | apply envLe_same)
  · rfl
  rintro n hinv ih
  obtain ⟨hn, hv⟩ := hinv
  refine ARun.seq (ARun.seq (ARun.region ?_))
  refine y_op rfl (q_move rfl) ?_
  refine y_op rfl (q_int rfl rfl rfl) ?_
  refine y_op rfl (q_move rfl) ?_
  refine AOps.bool 8 rfl (fun h => ?_) (fun h => ?_)
  · skip
    replace h := of_decide_eq_true h
    obtain ⟨m, rfl⟩ : ∃ m, n = m + 1 := ⟨n - 1, by omega⟩
    refine y_op rfl (q_move rfl) ?_
    refine y_op rfl (q_move rfl) ?_
    refine y_op rfl (q_sub rfl rfl (nsub1_i64 (by omega) (by omega))) ?_
    refine y_op rfl (Zam (i := m) rfl rfl rfl rfl (by omega) (by omega) (nts_ne (by omega)) (drop_nat rfl)) ?_
    refine y_op rfl (q_load rfl rfl rfl (nts_load (i := m) (by omega))) ?_
    refine y_op rfl (q_int rfl rfl rfl) ?_
    refine y_op rfl (q_pick rfl rfl rfl rfl) ?_
    refine AOps.nil ?_
    refine ARun.ite rfl (fun h2 => ?_) (fun h2 => ?_)
    · skip
      refine ARun.skip (ARun.block (ARun.region ?_))
      refine y_op rfl (q_move rfl) ?_
      refine y_op rfl (q_sub rfl rfl (nsub1_i64 (by omega) (by omega))) ?_
      refine y_op rfl (Zaa rfl) ?_
      refine AOps.nil (ARun.inBlock ?_)
      refine ARun.again (ih (m) ?_ ?_) ?_ ?_
      · exact ⟨by omega, by rw [← hv, List.take_add_one, val_append, show xs[m]? = some 0 by rw [List.getElem?_eq_getElem (by omega)]; have : xs.getD m 0 = 0 := (by omega); rw [List.getD_eq_getElem?_getD, List.getElem?_eq_getElem (by omega)] at this; exact congrArg some this]; simp [val]⟩
      · exact Nat.lt_succ_self _
      · (repeat' first | exact envLe_nil | apply envLe_any | apply envLe_same)
      · rfl
    · skip
      refine ARun.exit rfl ?_
      refine ARun.seq (ARun.region ?_)
      refine y_new rfl (Zao rfl rfl rfl rfl rfl rfl rfl rfl rfl rfl rfl (by decide) (by decide)) ?_
      refine y_op rfl (q_move rfl) ?_
      refine y_op rfl (q_move rfl) ?_
      refine y_op rfl (Zcr (m := (xs.take (m + 1)).length) (ds := nts .u32 (xs.take (m + 1))) rfl rfl rfl rfl rfl (bnd_nat rfl rfl) (by omega) (by omega) (by simp) (by simp; omega) (by rw [nts_slice]; simp)) ?_
      refine y_new rfl (Zb4 rfl rfl (by decide) rfl rfl rfl rfl rfl rfl rfl rfl rfl rfl (by simp) (by simp; omega) (by rw [maxLen_eq]; simp; omega) rfl) ?_
      refine y_op rfl (Zaa rfl) ?_
      refine AOps.nil ?_
      have hc : Canon (xs.take (m + 1)) := .inr (by rw [List.length_take, Nat.min_eq_left (by omega), Nat.add_sub_cancel, List.getD_eq_getElem?_getD, List.getElem?_take, if_pos (by omega), ← List.getD_eq_getElem?_getD]; omega)
      refine ARun.ret ?_
      refine ⟨_, _, _, .tmp rfl .nil, .cons (.row rfl (pures_nts _)) .nil, rfl, ?_⟩
      rw [← hv, numD, lim_val (hx.take _) hc]
      show Out.ret (D.sl (0 + _) _) = _
      rw [Nat.zero_add]
      rfl
  · skip
    replace h := of_decide_eq_false h
    have hn0 : n = 0 := by omega
    subst hn0
    refine y_skip rfl ?_
    refine y_skip rfl ?_
    refine y_skip rfl ?_
    refine y_skip rfl ?_
    refine y_skip rfl ?_
    refine y_skip rfl ?_
    refine y_op rfl (q_pick rfl rfl rfl rfl) ?_
    refine AOps.nil ?_
    refine ARun.condF rfl ?_
    refine ARun.exit rfl ?_
    refine ARun.seq (ARun.region ?_)
    refine y_new rfl (Zao rfl rfl rfl rfl rfl rfl rfl rfl rfl rfl rfl (by decide) (by decide)) ?_
    refine y_op rfl (q_move rfl) ?_
    refine y_op rfl (q_move rfl) ?_
    refine y_op rfl (Zcr (m := 0) (ds := nts .u32 []) rfl rfl rfl rfl rfl (bnd_int rfl (by omega)) (by omega) (by omega) (by simp) (by simp) (by rw [nts_slice]; simp)) ?_
    refine y_new rfl (Zb4 rfl rfl (by decide) rfl rfl rfl rfl rfl rfl rfl rfl rfl rfl (by simp) (by simp) (by rw [maxLen_eq]; simp) rfl) ?_
    refine y_op rfl (Zaa rfl) ?_
    refine AOps.nil ?_
    refine ARun.ret ?_
    refine ⟨_, _, _, .tmp rfl .nil, .cons (.row rfl (pures_nts _)) .nil, rfl, ?_⟩
    rw [← hv, List.take_zero, numD, val, lim_zero]
    rfl
theorem Zbr {xs : List Nat} {n : Nat} (hx : U32 xs) (hn : xs.length = n) (hl : n ≤ 35184372088832) : PC C Zb7 [.sl n (nts .u32 xs)] (fun o => o = .ret (numD (val xs))) := by
  subst hn; exact Zch xs hx hl
theorem Zjc (n : Nat) (hn : n < 18446744073709551616) : PC C Znv [.int .u64 (n : Int)] (fun o => o = .ret (numD n)) := by
  refine PC.run ZjU ZmG rfl ZmH rfl (rs := [.tmp 2]) (by rw [ZmI]) (by simp only [List.length_cons, List.length_nil, Nat.reduceAdd, Nat.reduceSub, List.replicate_succ, List.replicate_zero, List.cons_append, List.nil_append]; exact rfl) ?_
  have hu : U32 [n % 4294967296, n / 4294967296 % 4294967296] := U32.cons (Nat.mod_lt _ (by decide)) (U32.cons (Nat.mod_lt _ (by decide)) U32.nil)
  have hv : val [n % 4294967296, n / 4294967296 % 4294967296] = n := by
    simp only [val, B_eq]; omega
  refine ARun.seq (ARun.region ?_)
  refine y_op rfl (Zaa rfl) ?_
  refine AOps.nil (ARun.seq (ARun.region ?_))
  refine y_op rfl (q_move rfl) ?_
  refine y_op rfl (q_conv rfl rfl rfl nconv_u32) ?_
  refine y_op rfl (q_move rfl) ?_
  refine y_op rfl (q_shr rfl rfl (by omega) nshr32) ?_
  refine y_op rfl (q_conv rfl rfl rfl nconv_u32) ?_
  refine y_new rfl (Zao rfl rfl rfl rfl rfl rfl rfl rfl rfl rfl rfl (by decide) (by decide)) ?_
  refine y_new rfl (n_call rfl rfl (.cons (.row rfl rfl) .nil) (Zbr (xs := [n % 4294967296, n / 4294967296 % 4294967296]) hu rfl (by decide)) rfl) ?_
  refine y_op rfl (Zaa rfl) ?_
  refine AOps.nil ?_
  refine ARun.ret ?_
  refine ⟨_, _, _, .tmp rfl .nil, .cons (.same _) .nil, rfl, ?_⟩
  rw [hv]
  rfl
theorem Znd (xs : List Nat) : PC C ZlW [sln .u32 xs] (fun o => o = .ret (.bool (decide (xs.length ≤ 1024)))) := by
  refine PC.run ZgF Zk6 rfl Zk7 rfl (rs := [.tmp 2]) (by rw [Zk8]) (by simp only [List.length_cons, List.length_nil, Nat.reduceAdd, Nat.reduceSub, List.replicate_succ, List.replicate_zero, List.cons_append, List.nil_append]; exact rfl) ?_
  refine ARun.seq (ARun.region ?_)
  refine y_op rfl (Zaa rfl) ?_
  refine AOps.nil (ARun.seq (ARun.region ?_))
  refine y_op rfl (q_move rfl) ?_
  refine y_op rfl (Zac rfl rfl) ?_
  refine y_op rfl (q_int rfl rfl rfl) ?_
  refine y_op rfl (Zaa rfl) ?_
  refine AOps.nil ?_
  refine ARun.ret ?_
  refine ⟨_, _, _, .tmp rfl .nil, .cons (.same _) .nil, rfl, ?_⟩
  have : decide ((xs.length : Int) ≤ 1024) = decide (xs.length ≤ 1024) := by
    by_cases h : xs.length ≤ 1024
    · rw [decide_eq_true h, decide_eq_true (by omega)]
    · rw [decide_eq_false h, decide_eq_false (by omega)]
  rw [← this]
  rfl
theorem Zne (xs ys : List Nat) : PC C ZlL [sln .u32 xs, sln .u32 ys] (fun o => o = .ret (.bool (decide (xs = ys)))) := by
  refine PC.run Zgp ZkV rfl ZkW rfl (rs := [.tmp 4]) (by rw [ZkX]) (by simp only [List.length_cons, List.length_nil, Nat.reduceAdd, Nat.reduceSub, List.replicate_succ, List.replicate_zero, List.cons_append, List.nil_append]; exact rfl) ?_
  refine ARun.lenle 0 rfl (fun hlen => ?_)
  rw [maxLen_eq] at hlen
  refine ARun.seq (ARun.region ?_)
  refine y_op rfl (Zaa rfl) ?_
  refine AOps.nil (ARun.seq (ARun.seq (ARun.region ?_)))
  refine y_op rfl (q_move rfl) ?_
  refine y_op rfl (Zac rfl rfl) ?_
  refine y_op rfl (q_move rfl) ?_
  refine y_op rfl (Zac rfl rfl) ?_
  refine y_op rfl (q_int rfl rfl rfl) ?_
  refine AOps.nil ?_
  refine ARun.cond rfl (fun h => ?_) (fun h => ?_)
  · skip
    have hne : xs.length ≠ ys.length := by intro e; rw [e] at h; simp at h
    refine ARun.seq (ARun.region ?_)
    refine y_op rfl (Zaa rfl) ?_
    refine AOps.nil ?_
    refine ARun.ret ?_
    refine ⟨_, _, _, .tmp rfl .nil, .cons (.same _) .nil, rfl, ?_⟩
    rw [decide_eq_false (fun e => hne (by rw [e]))]
    rfl
  · skip
    have hl : xs.length = ys.length := by have h : (xs.length : Int) = ys.length := by simpa using h
                                          omega
    refine ARun.skip (ARun.seq (ARun.seq (ARun.region ?_)))
    refine y_op rfl (Zaa rfl) ?_
    refine AOps.nil (ARun.block ?_)
    refine ARun.loopI (S := Nat) (fun i : Nat => [(4, .any), (11, .any), (12, .any), (13, .any), (14, .any), (15, .any), (16, .any), (17, .any), (18, .any), (19, .any), (20, .any), (21, .any), (22, .any), (23, .any), (24, .any), (25, .any), (5, .int .i64 (i : Int))]) (fun i : Nat => []) (fun i : Nat => i ≤ xs.length ∧ ∀ j, j < i → xs.getD j 0 = ys.getD j 0) (fun i : Nat => xs.length - i) (0) ?_ ?_ ?_ ?_
    · exact ⟨Nat.zero_le _, fun j h => absurd h (Nat.not_lt_zero _)⟩
    · (repeat' first | exact envLe_nil | apply envLe_any | apply envLe_same)
    · rfl
    rintro i hinv ih
    obtain ⟨hi, hs⟩ := hinv
    refine ARun.seq (ARun.seq (ARun.region ?_))
    refine y_op rfl (q_move rfl) ?_
    refine y_op rfl (q_move rfl) ?_
    refine y_op rfl (Zac rfl rfl) ?_
    refine y_op rfl (q_int rfl rfl rfl) ?_
    refine AOps.nil ?_
    refine ARun.ite rfl (fun h2 => ?_) (fun h2 => ?_)
    · skip
      refine ARun.skip (ARun.seq (ARun.block (ARun.seq ?_)))
      refine ARun.drawnP 9 (fun _ => False) mixC rfl rfl (by kernel_rfl) (fun _ _ h => h.elim) ?_
      refine .op rfl (q_move rfl) ?_
      refine .op rfl (q_move rfl) ?_
      refine .op rfl (Zam (i := i) rfl rfl rfl rfl (by omega) (by omega) (nts_ne (by omega)) (drop_nat rfl)) ?_
      refine .op rfl (q_load rfl rfl rfl (nts_load (i := i) (by omega))) ?_
      refine .op rfl (q_move rfl) ?_
      refine .op rfl (q_move rfl) ?_
      refine .op rfl (Zam (i := i) rfl rfl rfl rfl (by omega) (by omega) (nts_ne (by omega)) (drop_nat rfl)) ?_
      refine .op rfl (q_load rfl rfl rfl (nts_load (i := i) (by omega))) ?_
      refine .op rfl (q_int rfl rfl rfl) ?_
      refine .nil (fun hG => ?_)
      refine AOps.nil ?_
      refine ARun.cond rfl (fun h3 => ?_) (fun h3 => ?_)
      · skip
        refine ARun.seq (ARun.region ?_)
        refine y_op rfl (Zaa rfl) ?_
        refine AOps.nil ?_
        refine ARun.ret ?_
        refine ⟨_, _, _, .tmp rfl .nil, .cons (.same _) .nil, rfl, ?_⟩
        rw [decide_eq_false (fun e => by rw [e] at h3; simp at h3)]
        rfl
      · skip
        have h3 : xs.getD i 0 = ys.getD i 0 := by
          have : ((xs.getD i 0 : Nat) : Int) = ((ys.getD i 0 : Nat) : Int) := by simpa using h3
          omega
        refine ARun.skip (ARun.inBlock (ARun.region ?_))
        refine y_op rfl (q_move rfl) ?_
        refine y_op rfl (q_add rfl rfl (nadd1_i64 (by omega))) ?_
        refine y_op rfl (Zaa rfl) ?_
        refine AOps.nil ?_
        refine ARun.again (ih ((i + 1)) ?_ ?_) ?_ ?_
        · exact ⟨by omega, fun j hj => by rcases Nat.lt_succ_iff_lt_or_eq.1 hj with h | rfl; exact hs j h; exact h3⟩
        · omega
        · (repeat' first | exact envLe_nil | apply envLe_any | apply envLe_same)
        · rfl
    · skip
      have hie : i = xs.length := by omega
      refine ARun.exit rfl ?_
      refine ARun.seq (ARun.region ?_)
      refine y_op rfl (Zaa rfl) ?_
      refine AOps.nil ?_
      refine ARun.ret ?_
      refine ⟨_, _, _, .tmp rfl .nil, .cons (.same _) .nil, rfl, ?_⟩
      have : xs = ys := by
        apply List.ext_getElem?
        intro j
        by_cases hj : j < xs.length
        · have := hs j (by omega)
          rw [List.getD_eq_getElem?_getD, List.getD_eq_getElem?_getD, List.getElem?_eq_getElem hj, List.getElem?_eq_getElem (by omega)] at this
          rw [List.getElem?_eq_getElem hj, List.getElem?_eq_getElem (by omega)]
          exact congrArg some this
        · rw [List.getElem?_eq_none (by omega), List.getElem?_eq_none (by omega)]
      rw [decide_eq_true this]
      rfl
end Go.V
