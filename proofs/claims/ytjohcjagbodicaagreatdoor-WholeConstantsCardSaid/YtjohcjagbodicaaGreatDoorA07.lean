/- A part of the proof: abstract values, rules for the steps of the program's form, and contracts of its functions, each proved; no condition. -/
import Derived.Test.YtjohcjagbodicaaGreatDoorA06
import Derived.Recover
set_option linter.unusedVariables false
set_option linter.unusedSimpArgs false
set_option synthInstance.maxSize 100000
set_option synthInstance.maxHeartbeats 2000000
set_option maxHeartbeats 2000000
namespace Go.V
open Go.RowKit Go.Proofs
theorem Ze3 (x : Nat) (hx : x < 4294967296) : PC C Zdl [.int .u32 (x : Int)] (fun o => o = .ret (.int .i64 ((32 - bl x : Nat) : Int))) := by
  refine PC.rn Zbm ZcW ZcX (rs := [.tmp 2]) (by rw [ZcY]) ?_
  have h := @bl_le x 32
  refine ARun.seq (ARun.region ?_); refine xa ?_; refine AOps.nil (ARun.seq (ARun.region ?_)); refine xm ?_
  refine xc rfl rfl (ZlU x hx) ?_
  refine y_op rfl (q_sub rfl rfl (nsub_i64 (m := 32) (by omega) (by omega))) ?_
  refine xa ?_; refine AOps.nil ?_
  refine ARun.ret ?_
  refine ⟨_, _, _, .tmp rfl .nil, .cons (.same _) .nil, rfl, ?_⟩
  rfl
def cmpI (a b : Nat) : Int := if a < b then -1 else if a = b then 0 else 1
theorem ZkH (hcmp : ∀ a b : Nat, (lim a).length ≤ 1099511627776 → (lim b).length ≤ 1099511627776 → PC C Zdf [numD a, numD b] (fun o => o = .ret (.int .i64 (cmpI a b)))) (a b : Nat) (ha : (lim a).length ≤ 274877906944) (hb : (lim b).length ≤ 274877906944) (hb0 : 0 < b) : PC C ZcL [numD a, numD b] (fun o => o = .ret (.tup [numD (a / b), numD (a % b)])) := by
  refine PC.rn Zce ZeW ZeX (rs := [.tmp 4, .tmp 5]) (by rw [ZeY]) ?_
  have hL := ln_pos.2 (Nat.pos_iff_ne_zero.1 hb0)
  refine ARun.seq (ARun.region ?_); refine xa ?_; refine xa ?_; refine AOps.nil (ARun.seq (ARun.block (ARun.seq (ARun.region ?_)))); refine xm ?_; refine xN ?_; refine xi ?_; refine xa ?_; refine AOps.nil ?_
  refine ARun.ite rfl (fun h1 => ?_) (fun h1 => ?_)
  · skip
    have hb1 : dig b 0 = b := by
      have := mod_of_ln (a := b) (k := 1) (by omega)
      rw [dig, Nat.pow_zero, Nat.div_one]
      rwa [Nat.pow_one] at this
    have hbB := dig_lt b 0
    rw [hb1] at hbB
    refine ARun.seq (ARun.region ?_); refine xm ?_; refine xm ?_
    refine y_op rfl (Zaj rfl rfl rfl rfl (by omega) (by omega) (nts_ne (by omega)) (drop_nat (i := 0) rfl)) ?_
    refine y_op rfl (q_load rfl rfl rfl ((lim_load (by omega)).trans (by rw [hb1]))) ?_
    refine xc rfl rfl (ZkG a b (by omega) hb0 hbB) ?_
    refine xe ?_; refine xe ?_; refine xa ?_; refine xa ?_; refine AOps.nil ?_
    refine ARun.ret ?_
    refine ⟨_, _, _, .tmp rfl (.tmp rfl .nil), .cons (.same _) (.cons (.same _) .nil), rfl, ?_⟩
    rfl
  refine ARun.seq (ARun.region ?_); refine xm ?_; refine xm ?_
  refine xc rfl rfl (hcmp a b (by omega) (by omega)) ?_
  refine xi ?_; refine xa ?_; refine AOps.nil ?_
  refine ARun.ite rfl (fun h2 => ?_) (fun h2 => ?_)
  · skip
    have hlt : a < b := by
      unfold cmpI at h2
      split at h2
      · assumption
      split at h2 <;> omega
    refine ARun.seq (ARun.region ?_); refine xm ?_; refine xa ?_; refine xa ?_; refine AOps.nil ?_
    refine ARun.ret ?_
    refine ⟨_, _, _, .tmp rfl (.tmp rfl .nil), .cons .nil (.cons (.same _) .nil), rfl, ?_⟩
    have hz : numD 0 = .sl 0 [] := by rw [numD, lim_zero]; rfl
    rw [Nat.div_eq_of_lt hlt, Nat.mod_eq_of_lt hlt, hz]
    rfl
  have hge : b ≤ a := by
    unfold cmpI at h2
    split at h2
    · omega
    omega
  have hln := ln_mono hge
  obtain ⟨s, hs⟩ : ∃ s, s = 32 - bl (dig b ((lim b).length - 1)) := ⟨_, rfl⟩
  obtain ⟨s1, s2, s3⟩ := norm_top hL hs
  have hla : (lim (a * 2 ^ s)).length ≤ (lim a).length + 1 := by
    refine Nat.le_trans (ln_mul _ _) (Nat.add_le_add_left ?_ _)
    rw [ln_le_iff, Nat.pow_one]
    exact Nat.lt_of_lt_of_le ((Nat.pow_lt_pow_iff_right (by decide)).2 s1) (by decide)
  have hd0 : 0 < b * 2 ^ s := Nat.mul_pos hb0 (Nat.two_pow_pos s)
  have hdB : b * 2 ^ s < B ^ (lim b).length := ln_le_iff.1 (Nat.le_of_eq s2)
  refine ARun.skip (ARun.inBlock (ARun.seq (ARun.region ?_))); refine xm ?_; refine xm ?_; refine xN ?_
  refine y_op rfl (q_sub rfl rfl (nsub1_i64 (by omega) (by omega))) ?_
  refine y_op rfl (Zaj rfl rfl rfl rfl (by omega) (by omega) (nts_ne (by omega)) (drop_nat rfl)) ?_
  refine y_op rfl (q_load rfl rfl rfl (lim_load (by omega))) ?_
  refine xc rfl rfl (hs ▸ Ze3 _ (dig_lt b ((lim b).length - 1))) ?_
  refine xa ?_; refine AOps.nil (ARun.seq (ARun.region ?_)); refine xm ?_; refine xm ?_
  refine xc rfl rfl (Zbo b s (by omega) (by omega)) ?_
  refine xa ?_; refine AOps.nil (ARun.seq (ARun.region ?_)); refine xm ?_; refine xN ?_; refine xa ?_; refine AOps.nil (ARun.seq (ARun.region ?_)); refine xm ?_; refine xN ?_
  refine y_op rfl (q_add rfl rfl (nadd1_i64 (by omega))) ?_
  refine y_new rfl (Zas rfl rfl rfl rfl rfl rfl rfl (by omega) (by rw [maxLen_eq]; omega) (zeros_nts _)) ?_
  refine xa ?_; refine AOps.nil (ARun.seq (ARun.region ?_)); refine xm ?_; refine xm ?_; refine xm ?_
  refine xc rfl rfl (Zbo a s (by omega) (by omega)) ?_
  refine y_new rfl (n_copy rfl rfl rfl rfl rfl rfl rfl rfl (by simp) (by omega) nts_copy) ?_
  refine AOps.nil (ARun.seq (ARun.region ?_)); refine xm ?_
  refine y_op rfl (ZaF rfl rfl rfl) ?_
  refine xm ?_
  refine y_op rfl (q_sub rfl rfl (nsub_i64 (by omega) (by omega))) ?_
  refine y_new rfl (Zas rfl rfl rfl rfl rfl rfl rfl (by omega) (by rw [maxLen_eq]; omega) (zeros_nts _)) ?_
  refine xa ?_; refine AOps.nil (ARun.seq (ARun.seq (ARun.region ?_))); refine xm ?_
  refine y_op rfl (ZaF rfl rfl rfl) ?_
  refine y_op rfl (q_sub rfl rfl (IntWalk.i64_in _ (by omega))) ?_
  refine xa ?_; refine AOps.nil (ARun.block ?_)
  refine ARun.loopI (S := Nat × List Nat × List Nat) (fun σ : Nat × List Nat × List Nat => [(58, .any), (59, .any), (60, .any), (61, .any), (62, .any), (63, .any), (64, .any), (65, .any), (66, .any), (67, .any), (68, .any), (69, .any), (70, .any), (71, .any), (72, .any), (73, .any), (11, .int .i64 ((σ.1 : Int) - 1))]) (fun σ : Nat × List Nat × List Nat => [some ⟨nts .u32 σ.2.1, Zae, 1, true, none⟩, some ⟨nts .u32 σ.2.2, Zae, 1, true, none⟩]) (fun σ : Nat × List Nat × List Nat => Ld (a * 2 ^ s) (b * 2 ^ s) (lim (b * 2 ^ s)).length σ.1 σ.2.1 σ.2.2 ∧ σ.2.1.length = (lim a).length + 1 ∧ σ.2.2.length = (lim a).length + 1 - (lim (b * 2 ^ s)).length ∧ σ.1 ≤ σ.2.2.length) (fun σ : Nat × List Nat × List Nat => σ.1) (((lim a).length + 1 - (lim (b * 2 ^ s)).length, lim (a * 2 ^ s) ++ (List.replicate ((lim a).length + 1) 0).drop (lim (a * 2 ^ s)).length, List.replicate ((lim a).length + 1 - (lim (b * 2 ^ s)).length) 0)) ?_ ?_ ?_ ?_
  · exact ⟨ld_init (by omega) s1 (by rw [s2]; exact s3) (by omega), by simp; omega, by simp, by simp⟩
  · (repeat' first | exact envLe_nil | apply envLe_any | apply envLe_same)
  · rfl
  rintro ⟨j, rs, qs⟩ hinv ih
  dsimp only at hinv ih ⊢
  obtain ⟨hI, hrl, hql, hj⟩ := hinv
  refine ARun.seq (ARun.seq (ARun.region ?_)); refine xm ?_; refine xi ?_; refine AOps.nil ?_
  refine ARun.ite rfl (fun h3 => ?_) (fun h3 => ?_)
  · skip
    obtain ⟨i, rfl⟩ : ∃ i, j = i + 1 := ⟨j - 1, by omega⟩
    rw [show (((i + 1 : Nat) : Int) - 1) = (i : Int) by omega]
    obtain ⟨w1, w2, w3⟩ := hI.win (by rw [s2]; exact hdB) (by omega)
    have hcE := Zlv (b * 2 ^ s) i (rs.take i) ((rs.drop i).take ((lim (b * 2 ^ s)).length + 1)) (rs.drop (i + ((lim (b * 2 ^ s)).length + 1))) (some ⟨nts .u32 qs, Zae, 1, true, none⟩) (by rw [List.length_take]; omega) ((hI.ur.drop i).take _) (by omega) (by omega) (by rw [s2]; exact s3) (by rw [List.length_take, List.length_drop]; omega) w2
    rw [← win_split] at hcE
    refine ARun.skip (ARun.seq (ARun.block (ARun.region ?_))); refine xm ?_; refine xm ?_; refine xm ?_; refine xm ?_; refine xm ?_; refine xm ?_
    refine y_op rfl (q_add rfl rfl (nadd_i64 (by omega))) ?_
    refine y_op rfl (q_add rfl rfl (nadd1_i64 (by omega))) ?_
    refine y_op rfl (ZmE (m := (lim (b * 2 ^ s)).length + 1) rfl rfl rfl rfl rfl rfl (by omega) (by omega) (by omega) (Nat.mul_one _)) ?_
    refine xm ?_
    refine Zay rfl rfl rfl rfl hcE (fun d1 H1 hR => ?_) (fun d1 H1 hR => by obtain ⟨zs, _, _, _, z, _⟩ := hR; cases z)
    obtain ⟨zs, z1, z2, z3, z4, rfl⟩ := hR
    injection z4 with z4
    subst z4
    have hst := hI.step (by rw [s2]; exact hdB) (by omega) (by omega) z1 z2 z3 hd0
    refine y_op rfl (Zah rfl rfl rfl rfl rfl (by omega) (by omega) (idx_nat rfl)) ?_
    refine y_new rfl (Zad rfl rfl rfl rfl rfl rfl (by simp; omega) nts_set) ?_
    refine AOps.nil (ARun.inBlock (ARun.region ?_)); refine xm ?_
    refine y_op rfl (q_sub rfl rfl (IntWalk.i64_in _ (by omega))) ?_
    refine xa ?_; refine AOps.nil ?_
    refine ARun.again (ih ((i, rs.take i ++ zs ++ rs.drop (i + ((lim (b * 2 ^ s)).length + 1)), qs.set i (val ((rs.drop i).take ((lim (b * 2 ^ s)).length + 1)) / (b * 2 ^ s)))) ?_ ?_) ?_ ?_
    · exact ⟨hst, by simp; omega, by simpa using hql, by simp; omega⟩
    · (dsimp only; omega)
    · (repeat' first | exact envLe_nil | apply envLe_any | apply envLe_same)
    rfl
  have hj0 : j = 0 := by omega
  subst hj0
  obtain ⟨f1, f2⟩ := hI.fin
  refine ARun.exit rfl ?_
  refine ARun.seq (ARun.region ?_); refine xm ?_
  refine y_new rfl (n_call rfl rfl (.cons (.row rfl (pures_nts _)) .nil) (ZbK hI.uq hql) rfl) ?_
  refine xm ?_
  refine y_new rfl (n_call rfl rfl (.cons (.row rfl (pures_nts _)) .nil) (ZbK hI.ur hrl) rfl) ?_
  refine xm ?_
  refine xc rfl rfl (Zij _ s (by rw [f2]; exact Nat.le_trans (ln_mono (Nat.le_of_lt (Nat.mod_lt _ hd0))) (by omega)) (by omega)) ?_
  refine xa ?_; refine xa ?_; refine AOps.nil ?_
  refine ARun.ret ?_
  refine ⟨_, _, _, .tmp rfl (.tmp rfl .nil), .cons (.same _) (.cons (.same _) .nil), rfl, ?_⟩
  rw [f1, f2, Nat.mul_div_mul_right _ _ (Nat.two_pow_pos s), Nat.mul_mod_mul_right, Nat.mul_div_cancel _ (Nat.two_pow_pos s)]
  rfl
end Go.V
/- DIVISION by halves. -/
namespace Go.V
theorem lim_one : lim 1 = [1] := by rw [lim_pos (by decide)]; simp [B, lim_zero]
structure Th (a d q r P : Nat) : Prop where
  le : a / d ≤ q
  eq : q * d + r = a + P
theorem Th.init {a d q r X : Nat} (hd : 0 < d) (hq : q * (d / X) + r = a / X) (hX : 0 < X) (hle : a / d ≤ q) : Th a d q (r * X + a % X) (q * (d % X)) := by
  refine ⟨hle, ?_⟩
  have h1 := Nat.div_add_mod d X
  have h2 := Nat.div_add_mod a X
  have h3 : q * d = X * (q * (d / X)) + q * (d % X) := by
    have := congrArg (q * ·) h1
    simp only [Nat.mul_add] at this
    rw [← this]
    congr 1
    exact Nat.mul_left_comm _ _ _
  have h4 : X * (q * (d / X)) + r * X = X * (a / X) := by rw [← hq, Nat.mul_add, Nat.mul_comm r X]
  omega
theorem th_le1 {a d X : Nat} (hX : 0 < X) (hf : 0 < d / X) : a / d ≤ a / X / (d / X) := by
  rw [Nat.le_div_iff_mul_le hf]
  have h1 := Nat.div_mul_le_self a d
  have h2 : a / d * (d / X * X) ≤ a / d * d := Nat.mul_le_mul_left _ (Nat.div_mul_le_self d X)
  rw [Nat.le_div_iff_mul_le hX, Nat.mul_assoc]
  omega
theorem th_le2 {a d X : Nat} (hd : 0 < d) (h : a < X * d) : a / d ≤ X - 1 := by
  have := (Nat.div_lt_iff_lt_mul hd).2 h
  generalize a / d = z at this ⊢
  omega
theorem th_eq2 {t f X : Nat} (hX : 1 ≤ X) (h : f * X ≤ t) : (X - 1) * f + (t - f * X + f) = t := by
  rw [Nat.sub_mul, Nat.one_mul]
  have h1 : 1 * f ≤ X * f := Nat.mul_le_mul_right _ hX
  have h2 := Nat.mul_comm X f
  omega
theorem Th.step {a d q r P : Nat} (h : Th a d q r P) (hd : 0 < d) (hr : r < P) : 1 ≤ q ∧ Th a d (q - 1) (r + d) P := by
  have h1 : a < q * d := by have := h.eq; omega
  have h2 := (Nat.div_lt_iff_lt_mul hd).2 h1
  have hq : 1 ≤ q := by generalize a / d = z at h2; omega
  refine ⟨hq, ?_, ?_⟩
  · generalize a / d = z at h2 ⊢; omega
  rw [Nat.sub_mul, Nat.one_mul]
  have h3 : 1 * d ≤ q * d := Nat.mul_le_mul_right _ hq
  have := h.eq
  omega
theorem Th.fin {a d q r P : Nat} (h : Th a d q r P) (hd : 0 < d) (hr : P ≤ r) : q = a / d ∧ r - P = a % d := by
  have h1 : q * d ≤ a := by have := h.eq; omega
  have h3 : q ≤ a / d := (Nat.le_div_iff_mul_le hd).2 h1
  have h4 : q = a / d := Nat.le_antisymm h3 h.le
  refine ⟨h4, ?_⟩
  have h5 := h.eq
  have h6 := Nat.div_add_mod a d
  rw [Nat.mul_comm] at h6
  rw [h4] at h5
  omega
theorem two_steps {a d X : Nat} (hd : 0 < d) : a / X / d * X + (a / X % d * X + a % X) / d = a / d ∧ (a / X % d * X + a % X) % d = a % d := by
  have h1 := Nat.div_add_mod a X
  have h2 := Nat.div_add_mod (a / X) d
  have h3 : a = (a / X % d * X + a % X) + d * (a / X / d * X) := by
    have h4 := congrArg (X * ·) h2
    simp only [Nat.mul_add] at h4
    have h5 : X * (d * (a / X / d)) = d * (a / X / d * X) := by simp only [Nat.mul_comm, Nat.mul_left_comm, Nat.mul_assoc]
    have h6 := Nat.mul_comm X (a / X % d)
    omega
  constructor
  · have h7 : a / d = ((a / X % d * X + a % X) + d * (a / X / d * X)) / d := by rw [← h3]
    rw [h7, Nat.add_mul_div_left _ _ hd, Nat.add_comm]
  have h7 : a % d = ((a / X % d * X + a % X) + d * (a / X / d * X)) % d := by rw [← h3]
  rw [h7, Nat.add_mul_mod_self_left]
theorem lt_mulB {x : Nat} (h : 0 < x) : x < x * B := by
  have := Nat.mul_le_mul_left x (show 2 ≤ B by decide)
  omega
theorem ln_B (h : Nat) : (lim (B ^ h)).length ≤ h + 1 := by rw [ln_le_iff, Nat.pow_succ]; exact lt_mulB (Nat.pow_pos B_pos)
end Go.V
/- SLICES THAT ARE NEVER WRITTEN, from their birth on. -/
namespace Go.V
open Go.RowKit
section
variable {C : Ctx} {env : List D} {H : Heap} {dst : Option Tmp} {ty : TypeId} {pos : String} {aft : Array Edge} {gd : Option (Nat × Bool)} {x y z : Operand} {d : D}
variable {T e : TypeId} {desc descE : TypeDesc} {size bytes sizeE bytesE : Nat} {zero zeroE : Value} {tee : TE}
theorem SR.allocK {C : Ctx} {L0 : Nat → Prop} {w : World} {μ : List Nat} {H : Heap} (hs : SR C L0 w μ H) (ob : Obj) : SR C L0 (w.alloc ob) μ H ∧ Evo w (w.alloc ob) μ μ H H := by
  have he : Evo w (w.alloc ob) μ μ H H := ⟨rfl, rfl, rfl, by simp, fun b hb _ => Below.heap_alloc w _ b hb, fun _ _ h => h, fun _ _ h => h, fun i x hx => ⟨x, hx, fun o' e => ⟨o', e, rfl, rfl, rfl, fun b cur _ hw => ⟨cur, by rw [Below.heap_alloc w _ b (Array.getElem?_eq_some_iff.1 hw).1]; exact hw, rfl⟩⟩⟩⟩
  refine ⟨hs.next he hs.len (fun i o b h1 h2 => ?_) hs.inj hs.own, he⟩
  exact (hs.obj i o b h1 h2).same (Below.heap_alloc w _ b (hs.block_lt h1 h2))
theorem OpQ.newF {o : Oper} {dv : D} (h : ∀ (L0 : Nat → Prop) (w : World) (μ : List Nat) (a : Act), SR C L0 w μ H → (∀ x d, evO C env x = some d → VR w (forb L0 μ H) μ H d (a.eval x)) →
      ∃ (v : Value) (cur : Array Value), (execOp a.eval o).run C.P w = .ok (.value v) (w.alloc (.cells cur e)) ∧ (Evo w (w.alloc (.cells cur e)) μ μ H H → VR (w.alloc (.cells cur e)) (forb L0 μ H) μ H dv v)) : OpQ C o env H dv := by
  refine ⟨fun L0 w μ a hs hv => ?_⟩
  obtain ⟨v, cur, h1, h4⟩ := h L0 w μ a hs (fun x d hx => evO_ok hs hv hx)
  unfold Oper.wp
  rw [h1]
  obtain ⟨s1, s2⟩ := hs.allocK (.cells cur e)
  exact ⟨v, dv, H, μ, ⟨rfl, rfl⟩, rfl, s1, h4 s2, s2⟩
theorem Zjs {n : Nat} {zs cs : List D} {dz : D} {parts : List (Nat × Operand)} {ps : List (Nat × D)} (ht : UN C T (.slice e)) (te : TIC C e descE sizeE bytesE zeroE) (hz : constD zeroE = some dz) (hzs : cellsD dz = some zs) (hzk : zs.all (okCell H) = true) (hzl : zs.length = sizeE)
    (hps : (parts.mapM fun p => (evO C env p.2).map fun d => (p.1, d)) = some ps) (hk : okParts H ps = true) (hf : fillD (fun i => some (i * sizeE, sizeE)) (List.flatten (List.replicate n zs)) ps = some cs) (hck : cs.all (okCell H) = true) (hcl : cs.length = n * sizeE) (hn : n * sizeE ≤ 16777216) (h0 : 0 < sizeE) (hpu : D.pure.pures cs = true) :
    OpQ C ⟨dst, .buildSlice T n parts.toArray, ty, pos, aft, gd⟩ env H (.sl n cs) :=
  OpQ.newF (e := e) fun L0 w μ a hs he => by
    obtain ⟨e1, e2⟩ := evParts hps
    obtain ⟨z1, _⟩ := cellsD_ok (w := w) (L := forb L0 μ H) (μ := μ) (H := H) hzs hzk (constD_ok hz)
    have zl := VRs_length z1
    rw [Array.length_toList] at zl
    obtain ⟨i, i1, i2, i3, i4⟩ := te.infos
    have hbase : VRs w (forb L0 μ H) μ H (List.flatten (List.replicate n zs)) ((Array.range (n * sizeE)).map (fun j => zeroE.cells[j % zeroE.cells.size]!)).toList := by
      refine VRs_mk (by simp [hzl]) fun j d v h1 h2 => ?_
      have hj : j < n * zs.length := by rw [← flatten_len]; exact (List.getElem?_eq_some_iff.1 h1).1
      rw [flatten_get (by omega) n j hj] at h1
      obtain ⟨u, k1, k2⟩ := VRs_get z1 h1
      have h2' : zeroE.cells[j % zeroE.cells.size]! = v := by
        simp only [Array.toList_map, Array.toList_range, List.getElem?_map] at h2
        rw [List.getElem?_range (by rw [← hzl]; exact hj)] at h2
        simpa using h2
      have k1' : zeroE.cells[j % zs.length]? = some u := by simpa using k1
      rw [zl] at h2'
      rw [getElem!_def, k1'] at h2'
      simp only at h2'
      subst h2'
      exact k2
    obtain ⟨cells, r1, r2⟩ := fill_ok (w := w) (L := forb L0 μ H) (μ := μ) (H := H) (place := fun i => some (i * sizeE, sizeE)) (ps := ps) (vs := parts.map fun p => (p.1, a.eval p.2)) (cells := (Array.range (n * sizeE)).map (fun j => zeroE.cells[j % zeroE.cells.size]!)) (by simp [e1, Function.comp_def]) (fun j i d i' v h1 h2 => by
      obtain ⟨x, k1, k2⟩ := e2 j i d h1
      simp only [List.getElem?_map, k1, Option.map_some, Option.some.injEq, Prod.mk.injEq] at h2
      obtain ⟨rfl, rfl⟩ := h2
      exact ⟨he _ _ k2, fun ds hd => okParts_at hk h1 ds hd⟩) hbase hf
    have rl := VRs_length r2
    rw [Array.length_toList] at rl
    refine ⟨.slice (some ⟨w.heap.size, 0, none⟩) n n, cells, ?_, fun hl => ?_⟩
    · have hm : (parts.toArray.map fun p => (p.1, a.eval p.2)) = (parts.map fun p => (p.1, a.eval p.2)).toArray := by simp
      have n1 : ¬ (n * sizeE > 2 ^ 24) := by omega
      simp only [execOp, hm, Instr.buildSlice, Sem.run_bind, run_underlying ht, Result.andThen_ok, te.run_size, n1, if_false, Sem.run_pure]
      by_cases hn0 : n * sizeE = 0
      · simp only [hn0, if_true, Sem.run_pure, Result.andThen_ok]
        rw [hn0] at r1
        have r1' : Instr.fill (fun i => some (i * sizeE, sizeE)) ((Array.range 0).map (fun j => (#[] : Array Value)[j % (#[] : Array Value).size]!)) (parts.map fun p => (p.1, a.eval p.2)) = some cells := by
          rw [← r1, emp_range, emp_range]
        simp only [r1', newRow, Sem.run_bind, run_newObj_alloc, Result.andThen_ok, Sem.run_pure]
      simp only [hn0, if_false, Sem.run_bind, te.run_zero, Result.andThen_ok, Sem.run_pure]
      simp only [r1, newRow, Sem.run_bind, run_newObj_alloc, Result.andThen_ok, Sem.run_pure]
    simp only [VR]
    have hnm : n ≤ 16777216 := Nat.le_trans (Nat.le_mul_of_pos_right n h0) hn
    refine ⟨some ⟨w.heap.size, 0, none⟩, n, rfl, Nat.le_refl _, by unfold maxLen; omega, fun _ => ⟨⟨w.heap.size, 0, none⟩, rfl, by simp, fun hfb => Nat.lt_irrefl _ (hs.forb_lt hfb), VRL_mk fun j d hd => ?_⟩⟩
    obtain ⟨v, k1, k2⟩ := VRs_get r2 hd
    have hpd : d.pure = true := by
      have key : ∀ (l : List D) (j : Nat), D.pure.pures l = true → l[j]? = some d → d.pure = true := by
        intro l
        induction l with
        | nil => intro j _ h; simp at h
        | cons c l ih =>
          intro j h hj
          simp only [D.pure.pures, Bool.and_eq_true] at h
          cases j with
          | zero => simp at hj; subst hj; exact h.1
          | succ j => simp only [List.getElem?_cons_succ] at hj; exact ih j h.2 hj
      exact key cs j hpu hd
    refine ⟨v, ?_, okCell_one (List.all_eq_true.1 hck _ (List.mem_of_getElem? hd)) k2, VR.step (hl.step L0).pure (VR.drop hpd k2)⟩
    rw [Nat.zero_add, add_lit, cell_row (heap_alloc_new w _)]
    simpa using k1
theorem ZaB {n S b : Nat} {zv : Value} {zs cs : List D} {dz : D} {parts : List (Nat × Operand)} {ps : List (Nat × D)} (ht : C.ty T = some ⟨.slice e, S, b, zv⟩) (hee : C.ty e = some tee) (hz : constD tee.zero = some dz) (hzs : cellsD dz = some zs) (hzk : zs.all (okCell H) = true) (hzl : zs.length = tee.size)
    (hps : (parts.mapM fun p => (evO C env p.2).map fun d => (p.1, d)) = some ps) (hok : okParts H ps = true) (hf : fillD (fun i => some (i * tee.size, tee.size)) (List.flatten (List.replicate n zs)) ps = some cs) (hck : cs.all (okCell H) = true) (hcl : cs.length = n * tee.size) (hn : n * tee.size ≤ 16777216) (h0 : 0 < tee.size) (hpu : D.pure.pures cs = true) : OpQ C ⟨dst, .buildSlice T n parts.toArray, ty, pos, aft, gd⟩ env H (.sl n cs) :=
  Zjs (ty_slice ht) (ty_tic hee).1 hz hzs hzk hzl hps hok hf hck hcl hn h0 hpu
end
end Go.V
set_option synthInstance.maxSize 100000
set_option synthInstance.maxHeartbeats 2000000
set_option maxHeartbeats 2000000
namespace Go.V
open Go.RowKit Go.Proofs
def CmpOK : Prop := ∀ a b : Nat, (lim a).length ≤ 1099511627776 → (lim b).length ≤ 1099511627776 → PC C Zdf [numD a, numD b] (fun o => o = .ret (.int .i64 (cmpI a b)))
theorem Zd4 (a h : Nat) (ha : (lim a).length ≤ 1099511627776) (hh : h ≤ 34359738368) : PC C ZbU [numD a, .int .i64 ((32 * h : Nat) : Int)] (fun o => o = .ret (numD (a * B ^ h))) := by
  have := Zbo a (32 * h) ha (by omega)
  rwa [← B_pow] at this
theorem Zoh (h : Nat) (hh : h ≤ 34359738368) : PC C ZbU [.sl 1 [.int .u32 1], .int .i64 ((32 * h : Nat) : Int)] (fun o => o = .ret (numD (B ^ h))) := by
  have := Zd4 1 h (by rw [lim_one]; decide) hh
  rw [Nat.one_mul] at this
  have e : numD 1 = .sl 1 [.int .u32 1] := by rw [numD, lim_one]; rfl
  rwa [e] at this
theorem Zni (a : Nat) (ha : (lim a).length ≤ 1099511627776) (h : 1 ≤ a) : PC C Zdg [numD a, .sl 1 [.int .u32 1]] (fun o => o = .ret (numD (a - 1))) := by
  have := ZbN a 1 ha h
  have e : numD 1 = .sl 1 [.int .u32 1] := by rw [numD, lim_one]; rfl
  rwa [e] at this
theorem cmpI_lt {a b : Nat} : cmpI a b < 0 ↔ a < b := by
  unfold cmpI
  split
  · simp [*]
  split <;> simp [*]
theorem Znj (hcmp : CmpOK) (cut h : Nat) (hh : 1 ≤ h) (hN : h ≤ 1073741824) (htw : ∀ a d : Nat, (lim d).length = h → a < B ^ h * d → PC C Zha [numD a, numD d, .int .i64 (h : Int), .int .i64 (cut : Int)] (fun o => o = .ret (.tup [numD (a / d), numD (a % d)]))) (a d : Nat) (hd : (lim d).length = 2 * h) (ha : a < B ^ h * d) :
    PC C ZkB [numD a, numD d, .int .i64 (h : Int), .int .i64 (cut : Int)] (fun o => o = .ret (.tup [numD (a / d), numD (a % d)])) := by
  refine PC.rn Zey Zjl Zjm (rs := [.tmp 8, .tmp 9]) (by rw [Zjn]) ?_
  have hX : 0 < B ^ h := Nat.pow_pos B_pos
  have hd0 : 0 < d := Nat.pos_of_ne_zero (ln_pos.1 (by omega))
  have hal : (lim a).length ≤ 3 * h := by
    rw [ln_le_iff]
    refine Nat.lt_of_lt_of_le ha ?_
    rw [show 3 * h = h + 2 * h by omega, Nat.pow_add]
    exact Nat.mul_le_mul_left _ (Nat.le_of_lt (ln_le_iff.1 (Nat.le_of_eq hd)))
  have hfl := ln_div d h
  have hf0 : 0 < d / B ^ h := Nat.pos_of_ne_zero (ln_pos.1 (by omega))
  have hsl := ln_mod d h
  have htl := ln_div a h
  have hul := ln_div a (2 * h)
  refine ARun.seq (ARun.region ?_); refine xa ?_; refine xa ?_; refine AOps.nil (ARun.seq (ARun.region ?_)); refine xm ?_; refine xm ?_
  refine xc rfl rfl (ZaG a h (by omega)) ?_
  refine xm ?_; refine xm ?_
  refine xc rfl rfl (ZaG d h (by omega)) ?_
  refine xm ?_; refine xm ?_
  refine xc rfl rfl (Za7 d h (by omega)) ?_
  refine xa ?_; refine xa ?_; refine xa ?_; refine AOps.nil (ARun.seq (ARun.region ?_)); refine xa ?_; refine xa ?_; refine AOps.nil (ARun.seq (ARun.seq (ARun.region ?_))); refine xm ?_; refine xm ?_
  refine y_op rfl (q_mul rfl rfl (nmul_i64 (m := 2) (by omega))) ?_
  refine xc rfl rfl (ZaG a (2 * h) (by omega)) ?_
  refine xm ?_
  refine xc rfl rfl (hcmp _ _ (by omega) (by omega)) ?_
  refine xi ?_; refine AOps.nil ?_
  refine ARun.join (S := Nat × Nat) (fun σ : Nat × Nat => [(32, .any), (33, .any), (34, .any), (35, .any), (36, .any), (37, .any), (38, .any), (39, .any), (40, .any), (41, .any), (42, .any), (43, .any), (44, .any), (45, .any), (46, .any), (47, .any), (48, .any), (49, .any), (50, .any), (51, .any), (52, .any), (53, .any), (13, numD σ.1), (14, numD σ.2)]) (fun σ : Nat × Nat => σ.1 * (d / B ^ h) + σ.2 = a / B ^ h ∧ a / d ≤ σ.1 ∧ σ.1 < B ^ h) (fun run => ?_) ?_
  · skip
    refine ARun.ite rfl (fun hc => ?_) (fun hc => ?_)
    · skip
      have hlt := cmpI_lt.1 hc
      have htop : a / B ^ h < B ^ h * (d / B ^ h) := by
        rw [Nat.mul_comm, ← Nat.div_lt_iff_lt_mul hX, Nat.div_div_eq_div_mul, ← Nat.pow_add, show h + h = 2 * h by omega]
        exact hlt
      refine ARun.region ?_; refine xm ?_; refine xm ?_; refine xm ?_; refine xm ?_
      refine xc rfl rfl (htw (a / B ^ h) (d / B ^ h) (by omega) htop) ?_
      refine xm ?_; refine xe ?_; refine xe ?_; refine xa ?_; refine xa ?_; refine AOps.nil ?_
      exact ARun.ag (run ((a / B ^ h / (d / B ^ h), a / B ^ h % (d / B ^ h))) (⟨by dsimp only; rw [Nat.mul_comm]; exact Nat.div_add_mod _ _, th_le1 hX hf0, (Nat.div_lt_iff_lt_mul hf0).2 htop⟩))
    have hge : d / B ^ h * B ^ h ≤ a / B ^ h := by
      have : ¬ a / B ^ (2 * h) < d / B ^ h := fun x => hc (cmpI_lt.2 x)
      rw [← Nat.le_div_iff_mul_le hX, Nat.div_div_eq_div_mul, ← Nat.pow_add, show h + h = 2 * h by omega]
      omega
    have hB1 := ln_B h
    have hsb := ln_mono (Nat.sub_le (a / B ^ h) (d / B ^ h * B ^ h))
    refine ARun.seq (ARun.region ?_)
    refine y_op rfl (ZaB rfl rfl rfl rfl rfl rfl rfl rfl rfl rfl rfl (by decide) (by decide) rfl) ?_
    refine xm ?_
    refine y_op rfl (q_mul rfl rfl (nmul_i64 (m := 32) (by omega))) ?_
    refine xc rfl rfl (Zoh h (by omega)) ?_
    refine y_op rfl (ZaB rfl rfl rfl rfl rfl rfl rfl rfl rfl rfl rfl (by decide) (by decide) rfl) ?_
    refine xc rfl rfl (Zni _ (by omega) hX) ?_
    refine xa ?_; refine AOps.nil (ARun.region ?_); refine xm ?_; refine xm ?_; refine xm ?_
    refine y_op rfl (q_mul rfl rfl (nmul_i64 (m := 32) (by omega))) ?_
    refine xc rfl rfl (Zd4 _ h (by omega) (by omega)) ?_
    refine xc rfl rfl (ZbN _ _ (by omega) hge) ?_
    refine xm ?_
    refine xc rfl rfl (Zaz _ _ (by omega) (by omega)) ?_
    refine xa ?_; refine AOps.nil ?_
    exact ARun.ag (run ((B ^ h - 1, a / B ^ h - d / B ^ h * B ^ h + d / B ^ h)) (⟨th_eq2 hX hge, th_le2 hd0 ha, Nat.sub_lt hX (by decide)⟩))
  rintro ⟨q, r⟩ hj
  try dsimp only at hj ⊢
  obtain ⟨j1, j2, j3⟩ := hj
  have hT := Th.init hd0 j1 hX j2
  have hql : (lim q).length ≤ h := ln_le j3
  have hrl : (lim r).length ≤ 2 * h := Nat.le_trans (ln_mono (show r ≤ a / B ^ h by omega)) (by omega)
  have hpl := ln_mul q (d % B ^ h)
  have hrb := ln_mul r (B ^ h)
  have hB1 := ln_B h
  have hml := ln_mod a h
  have hadd := ln_add (r * B ^ h) (a % B ^ h)
  refine ARun.seq (ARun.region ?_); refine xm ?_; refine xm ?_
  refine xc rfl rfl (Zik _ _ (by omega) (by omega)) ?_
  refine xa ?_; refine AOps.nil (ARun.seq (ARun.region ?_)); refine xm ?_; refine xm ?_
  refine y_op rfl (q_mul rfl rfl (nmul_i64 (m := 32) (by omega))) ?_
  refine xc rfl rfl (Zd4 _ h (by omega) (by omega)) ?_
  refine xm ?_; refine xm ?_
  refine xc rfl rfl (Za7 a h (by omega)) ?_
  refine xc rfl rfl (Zaz _ _ (by omega) (by omega)) ?_
  refine xa ?_; refine AOps.nil (ARun.seq (ARun.block ?_))
  refine ARun.loopI (S := Nat × Nat) (fun σ : Nat × Nat => [(65, .any), (66, .any), (67, .any), (68, .any), (69, .any), (70, .any), (71, .any), (72, .any), (73, .any), (74, .any), (13, numD σ.1), (14, numD σ.2)]) (fun σ : Nat × Nat => []) (fun σ : Nat × Nat => Th a d σ.1 σ.2 (q * (d % B ^ h)) ∧ (lim σ.1).length ≤ h ∧ (lim σ.2).length ≤ 4 * h + 2) (fun σ : Nat × Nat => σ.1) ((q, r * B ^ h + a % B ^ h)) ?_ ?_ ?_ ?_
  · exact ⟨hT, hql, by dsimp only; omega⟩
  · (repeat' first | exact envLe_nil | apply envLe_any | apply envLe_same)
  · rfl
  rintro ⟨u, v⟩ hinv ih
  dsimp only at hinv ih ⊢
  obtain ⟨hI, hul2, hvl⟩ := hinv
  refine ARun.seq (ARun.seq (ARun.region ?_)); refine xm ?_; refine xm ?_
  refine xc rfl rfl (hcmp _ _ (by omega) (by omega)) ?_
  refine xi ?_; refine AOps.nil ?_
  refine ARun.ite rfl (fun h2 => ?_) (fun h2 => ?_)
  · skip
    obtain ⟨k1, k2⟩ := hI.step hd0 (cmpI_lt.1 h2)
    have hvl2 := ln_mono (Nat.le_of_lt (cmpI_lt.1 h2))
    have hvd := ln_add v d
    have hu1 := ln_mono (Nat.sub_le u 1)
    refine ARun.skip (ARun.block (ARun.seq (ARun.region ?_))); refine xm ?_; refine xm ?_
    refine xc rfl rfl (Zaz _ _ (by omega) (by omega)) ?_
    refine xa ?_; refine AOps.nil (ARun.region ?_); refine xm ?_
    refine y_op rfl (ZaB rfl rfl rfl rfl rfl rfl rfl rfl rfl rfl rfl (by decide) (by decide) rfl) ?_
    refine xc rfl rfl (Zni _ (by omega) k1) ?_
    refine xa ?_; refine AOps.nil (ARun.inBlock ?_)
    refine ARun.again (ih ((u - 1, v + d)) ?_ ?_) ?_ ?_
    · exact ⟨k2, by dsimp only; omega, by dsimp only; omega⟩
    · (dsimp only; omega)
    · (repeat' first | exact envLe_nil | apply envLe_any | apply envLe_same)
    rfl
  have hge : q * (d % B ^ h) ≤ v := by
    have : ¬ v < q * (d % B ^ h) := fun x => h2 (cmpI_lt.2 x)
    omega
  obtain ⟨f1, f2⟩ := hI.fin hd0 hge
  refine ARun.exit rfl ?_
  refine ARun.seq (ARun.region ?_); refine xm ?_; refine xm ?_; refine xm ?_
  refine xc rfl rfl (ZbN _ _ (by omega) hge) ?_
  refine xa ?_; refine xa ?_; refine AOps.nil ?_
  refine ARun.ret ?_
  refine ⟨_, _, _, .tmp rfl (.tmp rfl .nil), .cons (.same _) (.cons (.same _) .nil), rfl, ?_⟩
  rw [f1, f2]
  rfl
end Go.V
set_option synthInstance.maxSize 100000
set_option synthInstance.maxHeartbeats 2000000
set_option maxHeartbeats 2000000
namespace Go.V
open Go.RowKit Go.Proofs
theorem Zd5 (hcmp : CmpOK) (a b : Nat) (ha : (lim a).length ≤ 274877906944) (hb : (lim b).length ≤ 274877906944) (hb0 : 0 < b) : PC C ZcL [numD a, numD b] (fun o => o = .ret (.tup [numD (a / b), numD (a % b)])) := ZkH hcmp a b ha hb hb0
theorem ZnU (hcmp : CmpOK) (cut : Nat) (n : Nat) : 1 ≤ n → n ≤ 1073741824 → ∀ a d : Nat, (lim d).length = n → a < B ^ n * d → PC C Zha [numD a, numD d, .int .i64 (n : Int), .int .i64 (cut : Int)] (fun o => o = .ret (.tup [numD (a / d), numD (a % d)])) := by
  induction n using Nat.strongRecOn with
  | _ n rec =>
  intro hn hN a d hd ha
  refine PC.rn Zfs Zky Zkz (rs := [.tmp 8, .tmp 9]) (by rw [ZkA]) ?_
  have hd0 : 0 < d := Nat.pos_of_ne_zero (ln_pos.1 (by omega))
  have hal : (lim a).length ≤ 2 * n := by
    rw [ln_le_iff]
    refine Nat.lt_of_lt_of_le ha ?_
    rw [show 2 * n = n + n by omega, Nat.pow_add]
    exact Nat.mul_le_mul_left _ (Nat.le_of_lt (ln_le_iff.1 (Nat.le_of_eq hd)))
  refine ARun.seq (ARun.region ?_); refine xa ?_; refine xa ?_; refine AOps.nil (ARun.seq (ARun.seq (ARun.region ?_))); refine xm ?_
  refine y_op rfl (q_rem rfl rfl (by omega) (nrem (n := 2) rfl)) ?_
  refine xi ?_; refine xm ?_
  refine AOps.bool 17 rfl (fun hb => ?_) (fun hb => ?_)
  · skip
    refine xk ?_; refine xk ?_; refine xk ?_; refine xp ?_; refine AOps.nil ?_
    refine ARun.condT rfl ?_
    refine ARun.seq (ARun.region ?_); refine xm ?_; refine xm ?_
    refine xc rfl rfl (Zd5 hcmp a d (by omega) (by omega) hd0) ?_
    refine xe ?_; refine xe ?_; refine xa ?_; refine xa ?_; refine AOps.nil ?_
    refine ARun.ret ?_
    refine ⟨_, _, _, .tmp rfl (.tmp rfl .nil), .cons (.same _) (.cons (.same _) .nil), rfl, ?_⟩
    rfl
  refine xm ?_; refine xm ?_; refine xi ?_; refine xp ?_; refine AOps.nil ?_
  refine ARun.ite rfl (fun hc => ?_) (fun hc => ?_)
  · skip
    refine ARun.seq (ARun.region ?_); refine xm ?_; refine xm ?_
    refine xc rfl rfl (Zd5 hcmp a d (by omega) (by omega) hd0) ?_
    refine xe ?_; refine xe ?_; refine xa ?_; refine xa ?_; refine AOps.nil ?_
    refine ARun.ret ?_
    refine ⟨_, _, _, .tmp rfl (.tmp rfl .nil), .cons (.same _) (.cons (.same _) .nil), rfl, ?_⟩
    rfl
  have hev : ¬ ((n % 2 : Nat) : Int) = 1 := fun e => by rw [e] at hb; cases hb
  obtain ⟨h, rfl⟩ : ∃ h, n = 2 * h := ⟨n / 2, by omega⟩
  have hX : 0 < B ^ h := Nat.pow_pos B_pos
  have htl := ln_div a h
  have hml := ln_mod a h
  have ha1 : a / B ^ h < B ^ h * d := by
    rw [Nat.div_lt_iff_lt_mul hX, Nat.mul_right_comm, ← Nat.pow_add, show h + h = 2 * h by omega]
    exact ha
  have hr1 := Nat.mod_lt (a / B ^ h) hd0
  have ha2 : a / B ^ h % d * B ^ h + a % B ^ h < B ^ h * d := by
    have h1 : (a / B ^ h % d + 1) * B ^ h ≤ d * B ^ h := Nat.mul_le_mul_right _ hr1
    have h2 := Nat.mod_lt a hX
    have h3 := Nat.mul_comm d (B ^ h)
    rw [Nat.add_mul, Nat.one_mul] at h1
    omega
  have hrl : (lim (a / B ^ h % d)).length ≤ 2 * h := Nat.le_trans (ln_mono (Nat.le_of_lt hr1)) (Nat.le_of_eq hd)
  have hrb := ln_mul (a / B ^ h % d) (B ^ h)
  have hBl := ln_B h
  have hul := ln_mono (Nat.div_le_self (a / B ^ h) d)
  have hub := ln_mul (a / B ^ h / d) (B ^ h)
  have hll := Nat.le_trans (ln_mono (Nat.div_le_self (a / B ^ h % d * B ^ h + a % B ^ h) d)) (ln_add _ _)
  have th := Znj hcmp cut h (by omega) (by omega) (fun a d h1 h2 => rec h (by omega) (by omega) (by omega) a d h1 h2)
  obtain ⟨e1, e2⟩ := two_steps (a := a) (d := d) (X := B ^ h) hd0
  refine ARun.skip (ARun.seq (ARun.region ?_)); refine xm ?_
  refine y_op rfl (q_quo rfl rfl (by omega) (r := (h : Nat)) ((nquo_i64 (n := 2) rfl (by omega)).trans (by rw [Nat.mul_div_cancel_left _ (by decide)]))) ?_
  refine xa ?_; refine AOps.nil (ARun.seq (ARun.region ?_)); refine xm ?_; refine xm ?_
  refine xc rfl rfl (ZaG a h (by omega)) ?_
  refine xm ?_; refine xm ?_; refine xm ?_
  refine xc rfl rfl (th (a / B ^ h) d hd ha1) ?_
  refine xm ?_; refine xe ?_; refine xe ?_; refine xa ?_; refine xa ?_; refine AOps.nil (ARun.seq (ARun.region ?_)); refine xm ?_; refine xm ?_
  refine y_op rfl (q_mul rfl rfl (nmul_i64 (m := 32) (by omega))) ?_
  refine xc rfl rfl (Zd4 _ h (by omega) (by omega)) ?_
  refine xm ?_; refine xm ?_
  refine xc rfl rfl (Za7 a h (by omega)) ?_
  refine xc rfl rfl (Zaz _ _ (by omega) (by omega)) ?_
  refine xm ?_; refine xm ?_; refine xm ?_
  refine xc rfl rfl (th _ d hd ha2) ?_
  refine xm ?_; refine xe ?_; refine xe ?_; refine xa ?_; refine xa ?_; refine AOps.nil (ARun.seq (ARun.region ?_)); refine xm ?_; refine xm ?_
  refine y_op rfl (q_mul rfl rfl (nmul_i64 (m := 32) (by omega))) ?_
  refine xc rfl rfl (Zd4 _ h (by omega) (by omega)) ?_
  refine xm ?_
  refine xc rfl rfl (Zaz _ _ (by omega) (by omega)) ?_
  refine xm ?_; refine xa ?_; refine xa ?_; refine AOps.nil ?_
  refine ARun.ret ?_
  refine ⟨_, _, _, .tmp rfl (.tmp rfl .nil), .cons (.same _) (.cons (.same _) .nil), rfl, ?_⟩
  rw [e1, e2]
  rfl
end Go.V
/- DIVISION by blocks: how the block's length is found. -/
namespace Go.V
structure Hv (L n k : Nat) : Prop where
  lo : L ≤ n * 2 ^ k
  hi : n * 2 ^ k < L + 2 ^ k
  pw : 2 ^ k ≤ L
theorem Hv.init {L : Nat} (h : 1 ≤ L) : Hv L L 0 := ⟨by simp, by simp, by simpa using h⟩
theorem Hv.step {L n k : Nat} (h : Hv L n k) (hn : 4 ≤ n) : Hv L ((n + 1) / 2) (k + 1) := by
  obtain ⟨h1, h2, h3⟩ := h
  have hp : 2 ^ (k + 1) = 2 ^ k * 2 := Nat.pow_succ ..
  have h4 : n * 2 ^ k ≤ (n + 1) / 2 * 2 * 2 ^ k := Nat.mul_le_mul_right _ (by omega)
  have h5 : (n + 1) / 2 * 2 * 2 ^ k ≤ (n + 1) * 2 ^ k := Nat.mul_le_mul_right _ (by omega)
  have h6 : 4 * 2 ^ k ≤ n * 2 ^ k := Nat.mul_le_mul_right _ hn
  have e : (n + 1) / 2 * 2 ^ (k + 1) = (n + 1) / 2 * 2 * 2 ^ k := by rw [hp, Nat.mul_comm (2 ^ k), ← Nat.mul_assoc]
  rw [Nat.add_mul, Nat.one_mul] at h5
  refine ⟨?_, ?_, ?_⟩ <;> omega
theorem nshl_i64 {y : Int} {m s : Nat} (hy : y = (s : Int)) (hs : s ≤ 64) (h : m * 2 ^ s ≤ 9223372036854775807) : IntKind.i64.wrap ((m : Int) * 2 ^ min y.toNat IntKind.i64.bits) = ((m * 2 ^ s : Nat) : Int) := by
  subst hy
  rw [Int.toNat_natCast, show IntKind.i64.bits = 64 from rfl, Nat.min_eq_left hs]
  have : (m : Int) * 2 ^ s = ((m * 2 ^ s : Nat) : Int) := by simp
  rw [this]
  exact IntWalk.i64_in _ (by omega)
theorem pow_lt_of_le {k L : Nat} (h : 2 ^ k ≤ L) (hL : L ≤ 536870912) : k ≤ 64 := by
  rcases Nat.lt_or_ge 64 k with h1 | h1
  · have := Nat.pow_le_pow_right (show 0 < 2 by decide) (Nat.le_of_lt h1)
    omega
  exact h1
theorem blk_norm {b n s : Nat} (hb : 0 < b) (hn : (lim b).length ≤ n) (hs : s = 32 * n - bl b) : (lim (b * 2 ^ s)).length = n := by
  have h1 := bl_le_ln b
  have hb2 : bl (b * 2 ^ s) = 32 * n := by
    have := bl_div (n := b * 2 ^ s) (k := s) (by have := Nat.mul_le_mul_right (2 ^ s) hb; omega)
    rw [Nat.mul_div_cancel _ (Nat.two_pow_pos s)] at this
    omega
  have h4 : (lim (b * 2 ^ s)).length ≤ n := by rw [ln_le_iff, B_pow, ← bl_le]; omega
  have h5 := bl_le_ln (b * 2 ^ s)
  omega
structure Bk (x d n j q r : Nat) : Prop where
  lt : r < d
  eq : q * d + r = x / B ^ (j * n)
theorem Bk.step {x d n j q r : Nat} (h : Bk x d n (j + 1) q r) (hd : 0 < d) :
    r * B ^ n + x / B ^ (j * n) % B ^ n < B ^ n * d ∧ Bk x d n j (q * B ^ n + (r * B ^ n + x / B ^ (j * n) % B ^ n) / d) ((r * B ^ n + x / B ^ (j * n) % B ^ n) % d) := by
  obtain ⟨h1, h2⟩ := h
  have hX : 0 < B ^ n := Nat.pow_pos B_pos
  have h3 : x / B ^ ((j + 1) * n) = x / B ^ (j * n) / B ^ n := by rw [Nat.div_div_eq_div_mul, ← Nat.pow_add, Nat.add_mul, Nat.one_mul]
  rw [h3] at h2
  generalize hy : x / B ^ (j * n) = y at h2 ⊢
  have h4 := Nat.mod_lt y hX
  have h5 : (r + 1) * B ^ n ≤ d * B ^ n := Nat.mul_le_mul_right _ h1
  have h6 := Nat.mul_comm d (B ^ n)
  rw [Nat.add_mul, Nat.one_mul] at h5
  refine ⟨by omega, Nat.mod_lt _ hd, ?_⟩
  have h7 := Nat.div_add_mod (r * B ^ n + y % B ^ n) d
  have h8 := Nat.div_add_mod y (B ^ n)
  have h9 := congrArg (B ^ n * ·) h2
  simp only [Nat.mul_add] at h9
  rw [hy, Nat.add_mul]
  have e1 : q * B ^ n * d = B ^ n * (q * d) := by simp only [Nat.mul_comm, Nat.mul_left_comm, Nat.mul_assoc]
  have e2 := Nat.mul_comm ((r * B ^ n + y % B ^ n) / d) d
  have e3 := Nat.mul_comm r (B ^ n)
  omega
theorem Bk.fin {x d n q r : Nat} (h : Bk x d n 0 q r) : q = x / d ∧ r = x % d := by
  obtain ⟨h1, h2⟩ := h
  rw [Nat.zero_mul, Nat.pow_zero, Nat.div_one] at h2
  have hd : 0 < d := by omega
  constructor
  · rw [← h2, Nat.mul_comm, Nat.mul_add_div hd, Nat.div_eq_of_lt h1, Nat.add_zero]
  rw [← h2, Nat.mul_comm, Nat.mul_add_mod, Nat.mod_eq_of_lt h1]
end Go.V
set_option synthInstance.maxSize 100000
set_option synthInstance.maxHeartbeats 2000000
set_option maxHeartbeats 2000000
namespace Go.V
open Go.RowKit Go.Proofs
theorem Znk (hcmp : CmpOK) (cut : Nat) (hcut : 4 ≤ cut) (a b : Nat) (ha : (lim a).length ≤ 536870912) (hb : (lim b).length ≤ 536870912) (hb0 : 0 < b) : PC C Zes [numD a, numD b, .int .i64 (cut : Int)] (fun o => o = .ret (.tup [numD (a / b), numD (a % b)])) := by
  refine PC.rn ZbY ZdX ZdY (rs := [.tmp 6, .tmp 7]) (by rw [ZdZ]) ?_
  have hL := ln_pos.2 (Nat.pos_iff_ne_zero.1 hb0)
  refine ARun.seq (ARun.region ?_); refine xa ?_; refine xa ?_; refine AOps.nil (ARun.seq (ARun.seq (ARun.region ?_))); refine xm ?_; refine xN ?_; refine xm ?_; refine xi ?_; refine AOps.nil ?_
  refine ARun.ite rfl (fun h1 => ?_) (fun h1 => ?_)
  · skip
    refine ARun.seq (ARun.region ?_); refine xm ?_; refine xm ?_
    refine xc rfl rfl (Zd5 hcmp a b (by omega) (by omega) hb0) ?_
    refine xe ?_; refine xe ?_; refine xa ?_; refine xa ?_; refine AOps.nil ?_
    refine ARun.ret ?_
    refine ⟨_, _, _, .tmp rfl (.tmp rfl .nil), .cons (.same _) (.cons (.same _) .nil), rfl, ?_⟩
    rfl
  refine ARun.skip (ARun.seq (ARun.region ?_)); refine xm ?_; refine xN ?_; refine xa ?_; refine xa ?_; refine AOps.nil (ARun.seq (ARun.block ?_))
  refine ARun.loopI (S := Nat × Nat) (fun σ : Nat × Nat => [(29, .any), (30, .any), (31, .any), (32, .any), (33, .any), (34, .any), (35, .any), (36, .any), (8, .int .i64 (σ.1 : Int)), (9, .int .i64 (σ.2 : Int))]) (fun σ : Nat × Nat => []) (fun σ : Nat × Nat => Hv (lim b).length σ.1 σ.2 ∧ σ.1 ≤ (lim b).length ∧ σ.2 ≤ (lim b).length) (fun σ : Nat × Nat => σ.1) (((lim b).length, 0)) ?_ ?_ ?_ ?_
  · exact ⟨Hv.init hL, Nat.le_refl _, by simp⟩
  · (repeat' first | exact envLe_nil | apply envLe_any | apply envLe_same)
  · rfl
  rintro ⟨n, k⟩ hinv ih
  dsimp only at hinv ih ⊢
  obtain ⟨hH, hn, hk⟩ := hinv
  refine ARun.seq (ARun.seq (ARun.region ?_)); refine xm ?_; refine xm ?_; refine xi ?_; refine AOps.nil ?_
  refine ARun.ite rfl (fun h2 => ?_) (fun h2 => ?_)
  · skip
    have hH2 := hH.step (by omega)
    have hp := hH2.pw
    have hk2 : k + 1 ≤ 2 ^ (k + 1) := Nat.le_of_lt Nat.lt_two_pow_self
    refine ARun.skip (ARun.block (ARun.seq (ARun.region ?_))); refine xm ?_
    refine y_op rfl (q_add rfl rfl (nadd1_i64 (by omega))) ?_
    refine y_op rfl (q_quo rfl rfl (by omega) (nquo_i64 (n := 2) rfl (by omega))) ?_
    refine xa ?_; refine AOps.nil (ARun.region ?_); refine xm ?_
    refine y_op rfl (q_add rfl rfl (nadd1_i64 (by omega))) ?_
    refine xa ?_; refine AOps.nil (ARun.inBlock ?_)
    refine ARun.again (ih (((n + 1) / 2, k + 1)) ?_ ?_) ?_ ?_
    · exact ⟨hH2, by dsimp only; omega, by dsimp only; omega⟩
    · (dsimp only; omega)
    · (repeat' first | exact envLe_nil | apply envLe_any | apply envLe_same)
    rfl
  have hlo := hH.lo
  have hhi := hH.hi
  have hpw := hH.pw
  have hk64 := pow_lt_of_le hpw hb
  obtain ⟨N, hN⟩ : ∃ N, N = n * 2 ^ k := ⟨_, rfl⟩
  have hbl := bl_le_ln b
  obtain ⟨s, hs⟩ : ∃ s, s = 32 * N - bl b := ⟨_, rfl⟩
  have hdl := blk_norm hb0 (by omega) hs
  have hd0 : 0 < b * 2 ^ s := Nat.mul_pos hb0 (Nat.two_pow_pos s)
  have h2s : (lim (2 ^ s)).length ≤ N + 1 := Nat.le_trans (ln_mono (show 2 ^ s ≤ B ^ N by rw [B_pow]; exact Nat.pow_le_pow_right (by decide) (by omega))) (ln_B N)
  have hxl := ln_mul a (2 ^ s)
  have hz : numD 0 = .sl 0 [] := by rw [numD, lim_zero]; rfl
  have hJ1 := Nat.div_add_mod ((lim (a * 2 ^ s)).length + N - 1) N
  have hJ2 := Nat.mod_lt ((lim (a * 2 ^ s)).length + N - 1) (show 0 < N by omega)
  have hJ3 := Nat.div_le_self ((lim (a * 2 ^ s)).length + N - 1) N
  obtain ⟨J, hJ⟩ : ∃ J, J = ((lim (a * 2 ^ s)).length + N - 1) / N := ⟨_, rfl⟩
  rw [← hJ] at hJ1 hJ3
  refine ARun.exit rfl ?_
  refine ARun.seq (ARun.region ?_); refine xm ?_; refine xm ?_
  refine y_op rfl (q_shl rfl rfl (by omega) (r := (N : Nat)) ((nshl_i64 rfl hk64 (by omega)).trans (by rw [hN]))) ?_
  refine xa ?_; refine AOps.nil (ARun.seq (ARun.region ?_)); refine xm ?_
  refine y_op rfl (q_mul rfl rfl (nmul_i64 (m := 32) (by omega))) ?_
  refine xm ?_
  refine xc rfl rfl (Zd3 b (by omega)) ?_
  refine y_op rfl (q_sub rfl rfl (r := (s : Nat)) ((nsub_i64 (by omega) (by omega)).trans (by rw [hs]))) ?_
  refine xa ?_; refine AOps.nil (ARun.seq (ARun.region ?_)); refine xm ?_; refine xm ?_
  refine xc rfl rfl (Zbo b s (by omega) (by omega)) ?_
  refine xm ?_; refine xm ?_
  refine xc rfl rfl (Zbo a s (by omega) (by omega)) ?_
  refine xa ?_; refine xa ?_; refine AOps.nil (ARun.seq (ARun.region ?_)); refine xa ?_; refine xa ?_; refine AOps.nil (ARun.seq (ARun.seq (ARun.region ?_))); refine xm ?_; refine xN ?_; refine xm ?_
  refine y_op rfl (q_add rfl rfl (nadd_i64 (by omega))) ?_
  refine y_op rfl (q_sub rfl rfl (nsub1_i64 (by omega) (by omega))) ?_
  refine xm ?_
  refine y_op rfl (q_quo rfl rfl (by omega) (nquo_i64 rfl (by omega))) ?_
  refine y_op rfl (q_sub rfl rfl (IntWalk.i64_in _ (by omega))) ?_
  refine xa ?_; refine AOps.nil (ARun.block ?_)
  refine ARun.nil0 13 rfl ?_
  refine ARun.nil0 14 rfl ?_
  rw [← hz, ← hJ]
  refine ARun.loopI (S := Nat × Nat × Nat) (fun σ : Nat × Nat × Nat => [(16, .any), (17, .any), (59, .any), (60, .any), (61, .any), (62, .any), (63, .any), (64, .any), (65, .any), (66, .any), (67, .any), (68, .any), (69, .any), (70, .any), (71, .any), (72, .any), (73, .any), (74, .any), (75, .any), (76, .any), (77, .any), (78, .any), (79, .any), (80, .any), (81, .any), (82, .any), (83, .any), (84, .any), (85, .any), (86, .any), (87, .any), (88, .any), (15, .int .i64 ((σ.1 : Int) - 1)), (13, numD σ.2.1), (14, numD σ.2.2)]) (fun σ : Nat × Nat × Nat => []) (fun σ : Nat × Nat × Nat => Bk (a * 2 ^ s) (b * 2 ^ s) N σ.1 σ.2.1 σ.2.2 ∧ σ.1 ≤ J) (fun σ : Nat × Nat × Nat => σ.1) ((J, 0, 0)) ?_ ?_ ?_ ?_
  · exact ⟨⟨hd0, by dsimp only; rw [Nat.div_eq_of_lt (Nat.lt_of_lt_of_le (ln_lt _) (Nat.pow_le_pow_right B_pos (by rw [Nat.mul_comm J N]; omega)))]; omega⟩, Nat.le_refl _⟩
  · (repeat' first | exact envLe_nil | apply envLe_any | apply envLe_same)
  · rfl
  rintro ⟨j, q, r⟩ hinv2 ih2
  dsimp only at hinv2 ih2 ⊢
  obtain ⟨hB, hj⟩ := hinv2
  have hr := hB.lt
  have hrl := ln_mono (Nat.le_of_lt hr)
  have hql : (lim q).length ≤ (lim (a * 2 ^ s)).length := by
    refine ln_mono ?_
    have h5 := hB.eq
    have h6 := Nat.div_le_self (a * 2 ^ s) (B ^ (j * N))
    have h7 := Nat.mul_le_mul_left q (show 1 ≤ b * 2 ^ s from hd0)
    omega
  refine ARun.seq (ARun.seq (ARun.region ?_)); refine xm ?_; refine xi ?_; refine AOps.nil ?_
  refine ARun.ite rfl (fun h3 => ?_) (fun h3 => ?_)
  · skip
    obtain ⟨i, rfl⟩ : ∃ i, j = i + 1 := ⟨j - 1, by omega⟩
    rw [show (((i + 1 : Nat) : Int) - 1) = (i : Int) by omega]
    obtain ⟨g1, g2⟩ := hB.step hd0
    have hiN : i * N ≤ (lim (a * 2 ^ s)).length := by
      have h5 : N * (i + 1) ≤ N * J := Nat.mul_le_mul_left _ hj
      rw [Nat.mul_add, Nat.mul_one, Nat.mul_comm N i] at h5
      omega
    have u1 := ln_div (a * 2 ^ s) (i * N)
    have u2 := ln_mod (a * 2 ^ s / B ^ (i * N)) N
    have u3 := ln_mul r (B ^ N)
    have u4 := ln_B N
    have u5 := ln_mul q (B ^ N)
    have u6 := ln_add (r * B ^ N) (a * 2 ^ s / B ^ (i * N) % B ^ N)
    have u7 := Nat.le_trans (ln_mono (Nat.div_le_self (r * B ^ N + a * 2 ^ s / B ^ (i * N) % B ^ N) (b * 2 ^ s))) u6
    refine ARun.skip (ARun.seq (ARun.block (ARun.seq (ARun.region ?_)))); refine xm ?_; refine xm ?_; refine xm ?_
    refine y_op rfl (q_mul rfl rfl (nmul_i64 (by omega))) ?_
    refine xc rfl rfl (ZaG _ (i * N) (by omega)) ?_
    refine xm ?_
    refine xc rfl rfl (Za7 _ N (by omega)) ?_
    refine xa ?_; refine AOps.nil (ARun.seq (ARun.region ?_)); refine xa ?_; refine AOps.nil (ARun.seq (ARun.region ?_)); refine xm ?_; refine xm ?_
    refine y_op rfl (q_mul rfl rfl (nmul_i64 (m := 32) (by omega))) ?_
    refine xc rfl rfl (Zd4 _ N (by omega) (by omega)) ?_
    refine xm ?_
    refine xc rfl rfl (Zaz _ _ (by omega) (by omega)) ?_
    refine xm ?_; refine xm ?_; refine xm ?_
    refine xc rfl rfl (ZnU hcmp cut N (by omega) (by omega) _ _ hdl g1) ?_
    refine xm ?_; refine xe ?_; refine xe ?_; refine xa ?_; refine xa ?_; refine AOps.nil (ARun.region ?_); refine xm ?_; refine xm ?_
    refine y_op rfl (q_mul rfl rfl (nmul_i64 (m := 32) (by omega))) ?_
    refine xc rfl rfl (Zd4 _ N (by omega) (by omega)) ?_
    refine xm ?_
    refine xc rfl rfl (Zaz _ _ (by omega) (by omega)) ?_
    refine xa ?_; refine AOps.nil (ARun.inBlock (ARun.region ?_)); refine xm ?_
    refine y_op rfl (q_sub rfl rfl (IntWalk.i64_in _ (by omega))) ?_
    refine xa ?_; refine AOps.nil ?_
    refine ARun.again (ih2 ((i, q * B ^ N + (r * B ^ N + a * 2 ^ s / B ^ (i * N) % B ^ N) / (b * 2 ^ s), (r * B ^ N + a * 2 ^ s / B ^ (i * N) % B ^ N) % (b * 2 ^ s))) ?_ ?_) ?_ ?_
    · exact ⟨g2, by dsimp only; omega⟩
    · (dsimp only; omega)
    · (repeat' first | exact envLe_nil | apply envLe_any | apply envLe_same)
    rfl
  have hj0 : j = 0 := by omega
  subst hj0
  obtain ⟨f1, f2⟩ := hB.fin
  refine ARun.exit rfl ?_
  refine ARun.seq (ARun.region ?_); refine xm ?_; refine xm ?_; refine xm ?_
  refine xc rfl rfl (Zij _ s (by omega) (by omega)) ?_
  refine xa ?_; refine xa ?_; refine AOps.nil ?_
  refine ARun.ret ?_
  refine ⟨_, _, _, .tmp rfl (.tmp rfl .nil), .cons (.same _) (.cons (.same _) .nil), rfl, ?_⟩
  rw [f1, f2, Nat.mul_div_mul_right _ _ (Nat.two_pow_pos s), Nat.mul_mod_mul_right, Nat.mul_div_cancel _ (Nat.two_pow_pos s)]
  rfl
end Go.V
set_option synthInstance.maxSize 100000
set_option synthInstance.maxHeartbeats 2000000
namespace Go.V
open Go.RowKit Go.Proofs
abbrev failN (e : Int) : D := .iface Zck (.agg [.int .i64 e])
theorem Zcu (ok : Bool) (e : Int) : PC C Zmw [.bool ok, .int .i64 e] (fun o => (ok = true ∧ o = .ret (.tup [])) ∨ (ok = false ∧ o = .pan (failN e))) := by
  refine PC.rn Zg2 Zln Zlo (rs := []) (by rw [Zlp]) ?_
  refine ARun.seq (ARun.region ?_); refine xm ?_; refine xn ?_; refine AOps.nil ?_
  refine ARun.cond rfl (fun h => ?_) (fun h => ?_)
  · skip
    refine ARun.region ?_; refine xm ?_
    refine y_op rfl (Zal rfl rfl rfl rfl rfl) ?_
    refine y_op rfl (Zhe rfl rfl rfl) ?_
    exact Zlu rfl rfl ⟨_, _, .same _, rfl, .inr ⟨by simpa using h, rfl⟩⟩
  refine ARun.skip ?_
  refine ARun.nil ?_
  refine ⟨_, _, _, .nil, .nil, rfl, ?_⟩
  exact .inl ⟨by simpa using h, rfl⟩
def okNat (xs : List Nat) : Prop := xs.length ≤ 1024 ∧ Canon xs
theorem okNat_iff {xs : List Nat} : okNat xs ↔ xs.length ≤ 1024 ∧ (xs.length = 0 ∨ xs.getD (xs.length - 1) 0 ≠ 0) := by
  unfold okNat Canon
  rw [List.length_eq_zero_iff]
theorem Zb3 (xs : List Nat) (dc : Decidable (okNat xs)) : PC C ZgG [sln .u32 xs] (fun o => o = .ret (.bool (decide (okNat xs)))) := by
  refine PC.rn Zfk ZjZ Zj0 (rs := [.tmp 2]) (by rw [Zj1]) ?_
  refine ARun.lenle 0 rfl (fun hlen => ?_)
  rw [maxLen_eq] at hlen
  refine ARun.seq (ARun.region ?_); refine xa ?_; refine AOps.nil (ARun.seq (ARun.region ?_)); refine xm ?_; refine xN ?_; refine xi ?_; refine xm ?_
  refine AOps.bool 6 rfl (fun h1 => ?_) (fun h1 => ?_)
  · skip
    replace h1 := of_decide_eq_true h1
    refine xm ?_; refine xN ?_; refine xi ?_; refine xm ?_
    refine AOps.bool 10 rfl (fun h2 => ?_) (fun h2 => ?_)
    · skip
      replace h2 : (xs.length : Int) = 0 := by simpa using h2
      refine xk ?_; refine xk ?_; refine xk ?_; refine xk ?_; refine xk ?_; refine xk ?_; refine xk ?_; refine xp ?_; refine xp ?_; refine xa ?_; refine AOps.nil ?_
      refine ARun.ret ?_
      refine ⟨_, _, _, .tmp rfl .nil, .cons (.same _) .nil, rfl, ?_⟩
      have : okNat xs := okNat_iff.2 ⟨by omega, .inl (by omega)⟩
      rw [decide_eq_true this]
      rfl
    replace h2 : ¬ (xs.length : Int) = 0 := by simpa using h2
    refine xm ?_; refine xm ?_; refine xN ?_
    refine y_op rfl (q_sub rfl rfl (nsub1_i64 (by omega) (by omega))) ?_
    refine y_op rfl (Zaj rfl rfl rfl rfl (by omega) (by omega) (nts_ne (by omega)) (drop_nat rfl)) ?_
    refine y_op rfl (q_load rfl rfl rfl (nts_load (by omega))) ?_
    refine xi ?_; refine xp ?_; refine xp ?_; refine xa ?_; refine AOps.nil ?_
    refine ARun.ret ?_
    refine ⟨_, _, _, .tmp rfl .nil, .cons (.same _) .nil, rfl, ?_⟩
    have e : decide (okNat xs) = (((xs.getD (xs.length - 1) 0 : Nat) : Int) != 0) := by
      by_cases hz : xs.getD (xs.length - 1) 0 = 0
      · have : ¬ okNat xs := fun x => by
          rcases (okNat_iff.1 x).2 with y | y
          · omega
          exact y hz
        rw [decide_eq_false this, hz]
        rfl
      rw [decide_eq_true (okNat_iff.2 ⟨by omega, .inr hz⟩)]
      have : ¬ ((xs.getD (xs.length - 1) 0 : Nat) : Int) = 0 := by omega
      simp only [bne, beq_eq_false_iff_ne.2 this, Bool.not_false]
    rw [e]
    rfl
  replace h1 := of_decide_eq_false h1
  refine xk ?_; refine xk ?_; refine xk ?_; refine xk ?_; refine xk ?_; refine xk ?_; refine xk ?_; refine xk ?_; refine xk ?_; refine xk ?_; refine xk ?_; refine xk ?_; refine xp ?_; refine xa ?_; refine AOps.nil ?_
  refine ARun.ret ?_
  refine ⟨_, _, _, .tmp rfl .nil, .cons (.same _) .nil, rfl, ?_⟩
  have : ¬ okNat xs := fun x => by have := x.1; omega
  rw [decide_eq_false this]
  rfl
end Go.V
/- DEFERRED FUNCTIONS THAT RECOVER. -/
namespace Go.V
open Go.RowKit
def recD : AMode → D × AMode
  | .panicking d => (d, .recovered d)
  | m => (.niliface, m)
theorem DC.of_run {C : Ctx} {f : FuncId} {fn : Func} {id : Nat} {c2 : Code} {args : List D} {H : Heap} {m : AMode} {R : AMode → Heap → Prop} {n : Nat} {t1 t2 : Tmp} {ty1 ty2 : TypeId} {p1 p2 : String} {a1 a2 : Array Edge} {at1 : Array TypeId} {env1 env2 : List D}
    (hf : C.P.funcs[f]? = some fn) (hen : Enters C.P f) (hb : fn.body = some (.seq (.region id #[⟨some t1, .call ⟨.builtin .recover, #[], at1⟩, ty1, p1, a1, none⟩, ⟨some t2, .assign (.tmp t1), ty2, p2, a2, none⟩] false) c2)) (hn : fn.ntmps = n) (hres : fn.results.toList = [])
    (hm : ∀ d, m ≠ .recovered d) (he1 : envPut (args ++ List.replicate (n - args.length) (.tup [])) (some t1) (recD m).1 = env1) (ht1 : env1[t1]? = some (recD m).1) (he2 : envPut env1 (some t2) (recD m).1 = env2)
    (h : ARun C ⟨none, fun x _ H' df => df = [] ∧ match x with | .ret => R (recD m).2 H' | .norm => R (recD m).2 H' | _ => False⟩ [.code c2] env2 H []) : DC C f H args m R := by
  refine ⟨hen, fun L0 w μ vs u hs ha hu c₀ cs hc₀ => ?_⟩
  have hl := VRs_length ha
  let b : Frame := { (default : Frame) with fn := f, kind := .deferred }
  let a : Act := { tmps := vs.toArray ++ Array.replicate (fn.ntmps - vs.toArray.size) undef, defers := [] }
  have henter : Frame.enter C.P f vs.toArray .deferred = b.at a [.code (.seq (.region id #[⟨some t1, .call ⟨.builtin .recover, #[], at1⟩, ty1, p1, a1, none⟩, ⟨some t2, .assign (.tmp t1), ty2, p2, a2, none⟩] false) c2)] := by
    simp [Frame.enter, Frame.at, hf, hb, b, a]
  have htm : VRs w (forb L0 μ H) μ H (args ++ List.replicate (n - args.length) (.tup [])) a.tmps.toList := by
    have : a.tmps.toList = vs ++ List.replicate (n - args.length) undef := by
      simp [a, hn, hl]
    rw [this]
    exact VRs_append ha (VRs_repl _)
  have hrec : ∃ (v : Value) (u' : FrameMode), VR w (forb L0 μ H) μ H (recD m).1 v ∧ ModeR w (forb L0 μ H) μ H (recD m).2 u' ∧
      (match recoverD (c₀ :: cs) with | some (v, cs') => (v, cs') | none => (.nilIface, c₀ :: cs)) = (v, { c₀ with mode := u' } :: cs) := by
    cases m with
    | returning =>
      have hu' : u = .returning := hu
      subst hu'
      refine ⟨.nilIface, .returning, by simp [recD, VR], rfl, ?_⟩
      have : c₀ = { c₀ with mode := .returning } := by rw [← hc₀]
      simp only [recoverD, hc₀]
      rw [← this]
    | panicking d =>
      obtain ⟨v, hu', hvd⟩ := hu
      subst hu'
      refine ⟨v, .panicking [{ v := v, recovered := true }], hvd, ⟨v, rfl, hvd⟩, ?_⟩
      simp only [recoverD, hc₀, pan1]
    | recovered d => exact (hm d rfl).elim
  obtain ⟨v, u', hv, hu', hrd⟩ := hrec
  let aa : Act := (a.put (some t1) v).put (some t2) v
  have hv1 : VRs w (forb L0 μ H) μ H env1 (a.put (some t1) v).tmps.toList := by rw [← he1]; exact VRs_put htm hv
  have hev1 : (a.put (some t1) v).eval (.tmp t1) = v := by
    obtain ⟨u1, k1, k2⟩ := VRs_get hv1 ht1
    simp only [Act.eval]
    rw [getD_of_list k1]
    have : (a.put (some t1) v).tmps.toList[t1]? = some v := by
      have hlt := (List.getElem?_eq_some_iff.1 k1).1
      simp only [Act.put, Array.toList_setIfInBounds] at hlt ⊢
      rw [List.getElem?_set]
      simp at hlt ⊢
      exact hlt
    rw [this] at k1
    injection k1 with k1
    exact k1.symm
  have hv2 : VRs w (forb L0 μ H) μ H env2 aa.tmps.toList := by rw [← he2]; exact VRs_put hv1 hv
  have hstep : ∃ e a' cs' w', (e = .normal ∧ a' = aa ∧ cs' = { c₀ with mode := u' } :: cs ∧ w' = w) ∧ Arrives C.P (lone (b.at a (.inRegion #[⟨some t1, .call ⟨.builtin .recover, #[], at1⟩, ty1, p1, a1, none⟩, ⟨some t2, .assign (.tmp t1), ty2, p2, a2, none⟩] [0, 1] :: [.code c2])) (c₀ :: cs) w) b [.code c2] cs' e a' w' := by
    refine wp_opsS (P := C.P) (Q := fun e a' cs' w' => e = .normal ∧ a' = aa ∧ cs' = { c₀ with mode := u' } :: cs ∧ w' = w) [0, 1] a (c₀ :: cs) w ?_ b [.code c2] rfl rfl
    have hasg : ∀ (w : World), (execOp (a.put (some t1) v).eval ⟨some t2, .assign (.tmp t1), ty2, p2, a2, none⟩).run C.P w = .ok (.value v) w := by
      intro w; simp only [execOp, hev1, Sem.run_pure]
    have hro : ∀ (w : World), (execOp a.eval ⟨some t1, .call ⟨.builtin .recover, #[], at1⟩, ty1, p1, a1, none⟩).run C.P w = .ok .recover w := by
      intro w; simp [execOp, resolve, invoke, builtin]
    have fin : ∀ cs', cs' = { c₀ with mode := u' } :: cs → wpOpsS C.P #[⟨some t1, .call ⟨.builtin .recover, #[], at1⟩, ty1, p1, a1, none⟩, ⟨some t2, .assign (.tmp t1), ty2, p2, a2, none⟩] (fun e a' cs' w' => e = .normal ∧ a' = aa ∧ cs' = { c₀ with mode := u' } :: cs ∧ w' = w) [1] (a.put (some t1) v) cs' w := by
      intro cs' hcs
      simp [wpOpsS, Region.wanted, hasg, Oper.upon, hcs, aa]
    cases hrr : recoverD (c₀ :: cs) with
    | none =>
      rw [hrr] at hrd
      injection hrd with h1 h2
      subst h1
      have := fin (c₀ :: cs) h2
      simpa [wpOpsS, Region.wanted, hro, hrr] using this
    | some p =>
      obtain ⟨pv, pcs⟩ := p
      rw [hrr] at hrd
      injection hrd with h1 h2
      subst h1
      have := fin pcs h2
      simpa [wpOpsS, Region.wanted, hro, hrr] using this
  obtain ⟨e0, a0, cs0, w0, ⟨q1, q2, q3, q4⟩, harr⟩ := hstep
  rw [q1, q2, q3, q4] at harr
  obtain ⟨e, a', w', ⟨x, env, H', μ', df, ⟨hdf, hR⟩, s1, hv', hd', hx', he'⟩, harr2⟩ := h.out L0 w μ H w μ aa hs hv2 rfl (Evo.refl _ _ _) b ({ c₀ with mode := u' } :: cs) rfl
  subst hdf
  have hd0 : a'.defers = [] := hd'
  have hsteps : Steps C.P (lone (b.at a [.code (.seq (.region id #[⟨some t1, .call ⟨.builtin .recover, #[], at1⟩, ty1, p1, a1, none⟩, ⟨some t2, .assign (.tmp t1), ty2, p2, a2, none⟩] false) c2)]) (c₀ :: cs) w) (lone (b.at aa [.code c2]) ({ c₀ with mode := u' } :: cs) w) :=
    Steps.trans (.one step_seq) (Steps.trans (.one step_region) harr)
  rw [← henter] at hsteps
  have eAt : b.atR aa [.code c2] = b.at aa [.code c2] := Frame.atR_of_none rfl _ _
  rw [← eAt] at hsteps
  obtain ⟨rv, r1, _⟩ := results_ok s1 hv' (fn := fn) (ds := []) (by rw [hres]; exact .nil)
  have hmode : ModeR w' (forb L0 μ' H') μ' H' (recD m).2 u' := hu'.step (he'.step L0)
  cases x with
  | ret =>
    have hx2 : e = .ret := hx'
    subst hx2
    obtain ⟨k, hst⟩ := harr2
    exact ⟨.returned rv, u', w', { b.atR a' (.code .ret :: k) with mode := .returning }, ⟨rv, (recD m).2, H', μ', rfl, hR, s1, hmode, he'⟩, Steps.trans hsteps (Steps.trans hst (.one (stepR_ret rfl))), rfl, rfl, hd0, fn, hf, r1⟩
  | norm =>
    have hx2 : e = .normal := hx'
    subst hx2
    exact ⟨.returned rv, u', w', { b.atR a' [] with mode := .returning }, ⟨rv, (recD m).2, H', μ', rfl, hR, s1, hmode, he'⟩, Steps.trans hsteps (Steps.trans harr2 (.one (stepR_end rfl))), rfl, rfl, hd0, fn, hf, r1⟩
  | exit id => exact hR.elim
  | pan d => exact hR.elim
end Go.V
/- THE OPERATION defer. -/
namespace Go.V
open Go.RowKit
section
variable {C : Ctx} {Q : Post} {ops : Array Oper} {rest : List Oper} {k : List Item} {env env' : List D} {H : Heap} {df : List ADef}
variable {dst : Option Tmp} {ty : TypeId} {pos : String} {aft : Array Edge} {gd : Option (Nat × Bool)} {x : Operand}
theorem Ze4 {f : FuncId} {args : List Operand} {ds : List D} {tys : Array TypeId} [hput : Put env dst (.tup []) env'] (hg : gOk ops.toList env gd = some true) (hx : evO C env x = some (.clos f [])) (ha : evOs C env args = some ds) (hk : AOps C Q ops rest k env' H (.fn f ds :: df)) (hrn : Q.rd = none := by rfl) :
    AOps C Q ops (⟨dst, .defer ⟨.value x, args.toArray, tys⟩, ty, pos, aft, gd⟩ :: rest) k env H df := by
  refine ⟨fun i hi => ⟨fun L0 w0 μ0 H0 w μ a hs hv hd he b cs hrd => ?_⟩⟩
  have ho : ops[i]? = some ⟨dst, .defer ⟨.value x, args.toArray, tys⟩, ty, pos, aft, gd⟩ := by have := drop_get hi; simpa using this
  have hw := gOk_ok (C := C) hv (o := ⟨dst, .defer ⟨.value x, args.toArray, tys⟩, ty, pos, aft, gd⟩) hg
  have ex := evO_ok hs hv hx
  have ea := evOs_ok hs hv ha
  simp only [VR, VRs] at ex
  obtain ⟨cvs, ex, rfl⟩ := ex
  let d : Deferred := { target := .fn (.func f) #[], args := (args.map a.eval).toArray }
  have hrun : (execOp a.eval ⟨dst, .defer ⟨.value x, args.toArray, tys⟩, ty, pos, aft, gd⟩).run C.P w = .ok (.defer d) w := by
    simp [execOp, resolve, ex, Deferred.ofValue, d]
  have hwp : Oper.wp C.P ⟨dst, .defer ⟨.value x, args.toArray, tys⟩, ty, pos, aft, gd⟩ a w (fun a' w' => a' = ({ a with defers := d :: a.defers } : Act).put dst undef ∧ w' = w) (fun _ _ _ => False) := by
    unfold Oper.wp
    rw [hrun]
    exact ⟨rfl, rfl⟩
  rw [List.length_cons, List.range'_succ]
  rcases op_step (rest := List.range' (i + 1) rest.length) ho hw hwp (by rintro ⟨_, _, h⟩; exact h) b (.inl (by rw [hrn] at hrd; exact hrd)) k cs with ⟨a', w', ⟨h1, h2⟩, hst⟩ | ⟨_, _, _, h, _⟩
  · subst h2
    have hv2 : VRs w' (forb L0 μ H) μ H env' a'.tmps.toList := by
      rw [h1, ← hput.eq]
      exact VRs_put (a := { a with defers := d :: a.defers }) hv (by simp only [VR]; exact ⟨[], rfl, by simp [VRs]⟩)
    have hd2 : DfR w' (forb L0 μ H) μ H (.fn f ds :: df) a'.defers := by
      rw [h1, put_defers]
      simp only [DfR]
      exact ⟨_, _, rfl, ea, hd⟩
    obtain ⟨e, a2, w2, h3, h4⟩ := (hk.out (i + 1) (drop_next hi)).out L0 w0 μ0 H0 w' μ a' hs hv2 hd2 he b cs hrd
    exact ⟨e, a2, w2, h3, .of_steps hst h4⟩
  exact h.elim
end
end Go.V
/- INTERFACES: comparison with nil; assertions of a concrete type. -/
namespace Go.V
open Go.RowKit
def isIf (P : Program) (t : TypeId) : Bool :=
  match P.underlying t with
  | some (.interface _) => true
  | _ => false
section
variable {P : Program} {t : TypeId}
theorem isIf_under (h : isIf P t = true) : ∃ ms, P.underlying t = some (.interface ms) := by
  unfold isIf at h
  cases hu : P.underlying t with
  | none => simp [hu] at h
  | some d => cases d <;> first | (simp [hu] at h; done) | exact ⟨_, rfl⟩
theorem run_ifNe (w : World) (h : isIf P t = true) (u : TypeId) (x : Value) : (binOp .neq t (.iface u x) .nilIface).run P w = .ok (.bool true) w := by
  obtain ⟨ms, hu⟩ := isIf_under h
  simp only [binOp]
  simp [Op.equal, Op.maxDepth]
  rw [Op.equalIn]
  simp [run_underlying hu]
theorem run_ifNeNil (w : World) (h : isIf P t = true) : (binOp .neq t .nilIface .nilIface).run P w = .ok (.bool false) w := by
  obtain ⟨ms, hu⟩ := isIf_under h
  simp only [binOp]
  simp [Op.equal, Op.maxDepth]
  rw [Op.equalIn]
  simp [run_underlying hu]
theorem run_ifEq (w : World) (h : isIf P t = true) (u : TypeId) (x : Value) : (binOp .eql t (.iface u x) .nilIface).run P w = .ok (.bool false) w := by
  obtain ⟨ms, hu⟩ := isIf_under h
  simp only [binOp]
  simp [Op.equal, Op.maxDepth]
  rw [Op.equalIn]
  simp [run_underlying hu]
theorem run_ifEqNil (w : World) (h : isIf P t = true) : (binOp .eql t .nilIface .nilIface).run P w = .ok (.bool true) w := by
  obtain ⟨ms, hu⟩ := isIf_under h
  simp only [binOp]
  simp [Op.equal, Op.maxDepth]
  rw [Op.equalIn]
  simp [run_underlying hu]
end
section
variable {C : Ctx} {env : List D} {H : Heap} {dst : Option Tmp} {ty : TypeId} {pos : String} {aft : Array Edge} {gd : Option (Nat × Bool)} {x : Operand} {T T' U xT : TypeId} {d : D} {te : TE}
theorem q_ifNe (hi : isIf C.P U = true) (hx : evO C env x = some (.iface T d)) : OpQ C ⟨dst, .binOp .neq U x (.const .nilIface) T', ty, pos, aft, gd⟩ env H (.bool true) :=
  OpQ.of_run fun L w μ a he => by
    have ex := he _ _ hx
    simp only [VR] at ex
    obtain ⟨u, ex, _⟩ := ex
    refine ⟨.bool true, ?_, by simp only [VR]⟩
    have hg : (eqGuard .neq U x (.const .nilIface) (.iface T u) .nilIface).run C.P w = .ok () w := by
      unfold eqGuard; simp
    have ec : a.eval (.const .nilIface) = .nilIface := rfl
    simp only [execOp, ex, ec, Sem.run_bind, hg, Result.andThen_ok, run_ifNe w hi T u, Sem.run_pure]
theorem ZkI (hi : isIf C.P U = true) (hx : evO C env x = some .niliface) : OpQ C ⟨dst, .binOp .neq U x (.const .nilIface) T', ty, pos, aft, gd⟩ env H (.bool false) :=
  OpQ.of_run fun L w μ a he => by
    have ex := he _ _ hx
    simp only [VR] at ex
    refine ⟨.bool false, ?_, by simp only [VR]⟩
    have hg : (eqGuard .neq U x (.const .nilIface) .nilIface .nilIface).run C.P w = .ok () w := by
      unfold eqGuard; simp
    have ec : a.eval (.const .nilIface) = .nilIface := rfl
    simp only [execOp, ex, ec, Sem.run_bind, hg, Result.andThen_ok, run_ifNeNil w hi, Sem.run_pure]
theorem Zcg (ht : C.ty T = some te) (hc : conK te.k = true) (hx : evO C env x = some (.iface T d)) : OpQ C ⟨dst, .typeAssert x xT T true, ty, pos, aft, gd⟩ env H (.tup [d, .bool true]) :=
  OpQ.of_run fun L w μ a he => by
    have ex := he _ _ hx
    simp only [VR] at ex
    obtain ⟨u, ex, hu⟩ := ex
    refine ⟨.tuple #[u, .bool true], ?_, by simp only [VR, VRs]; exact ⟨[u, .bool true], rfl, _, _, rfl, hu, _, _, rfl, rfl, rfl⟩⟩
    have hun := (ty_tic ht).1.run_un w
    have hk := (C.ok T te ht).2
    have hne : ∀ ms, tkDesc C.P T ≠ .interface ms := by
      intro ms e
      have hu2 := (ty_tic ht).1.un
      rw [e] at hu2
      cases hkk : te.k <;> rw [hkk] at hk hc <;> simp only [TKok] at hk <;> first | (cases hc; done) | (rw [hu2] at hk; cases hk; done) | (obtain ⟨_, h1, _⟩ := hk; rw [hu2] at h1; cases h1; done) | (obtain ⟨_, h1⟩ := hk; rw [hu2] at h1; cases h1)
    simp only [execOp, ex, Instr.typeAssert, Sem.run_bind, hun, Result.andThen_ok]
    generalize tkDesc C.P T = dsc at hne
    cases dsc <;> first | (exact (hne _ rfl).elim) | simp
end
end Go.V
set_option synthInstance.maxSize 100000
set_option synthInstance.maxHeartbeats 2000000
namespace Go.V
open Go.RowKit Go.Proofs
theorem ZeA (o0 : Option AObj) (e0 : Int) : DC C ZaH [o0, some ⟨[.int .i64 e0], Zao, 1, true, none⟩] [.ptr 1 0] .returning (fun m' H' => m' = .returning ∧ H' = [o0, some ⟨[.int .i64 e0], Zao, 1, true, none⟩]) := by
  refine DC.of_run Zbc ZbH rfl ZbI (by rw [ZbJ]) (fun _ h => by cases h) (by simp only [List.length_cons, List.length_nil, Nat.reduceAdd, Nat.reduceSub, List.replicate_succ, List.replicate_zero, List.cons_append, List.nil_append, recD, envPut, List.set_cons_succ, List.set_cons_zero]; exact rfl) rfl (by simp only [recD, envPut, List.set_cons_succ, List.set_cons_zero]; exact rfl) ?_
  refine ARun.seq (ARun.region ?_); refine xm ?_
  refine y_op rfl (ZkI (by kernel_rfl) rfl) ?_
  refine AOps.nil ?_
  refine ARun.condF rfl ?_
  refine ARun.skip ?_
  refine ARun.nil ?_
  exact ⟨rfl, rfl, rfl⟩
theorem ZeB (o0 : Option AObj) (e0 e : Int) : DC C ZaH [o0, some ⟨[.int .i64 e0], Zao, 1, true, none⟩] [.ptr 1 0] (.panicking (failN e)) (fun m' H' => m' = .recovered (failN e) ∧ H' = [o0, some ⟨[.int .i64 e], Zao, 1, true, none⟩, some ⟨[.int .i64 e], Zck, 1, true, none⟩]) := by
  refine DC.of_run Zbc ZbH rfl ZbI (by rw [ZbJ]) (fun _ h => by cases h) (by simp only [List.length_cons, List.length_nil, Nat.reduceAdd, Nat.reduceSub, List.replicate_succ, List.replicate_zero, List.cons_append, List.nil_append, recD, envPut, List.set_cons_succ, List.set_cons_zero]; exact rfl) rfl (by simp only [recD, envPut, List.set_cons_succ, List.set_cons_zero]; exact rfl) ?_
  refine ARun.seq (ARun.region ?_); refine xm ?_
  refine y_op rfl (q_ifNe (by kernel_rfl) rfl) ?_
  refine AOps.nil ?_
  refine ARun.condT rfl ?_
  refine ARun.seq (ARun.region ?_); refine xm ?_
  refine y_op rfl (Zcg rfl rfl rfl) ?_
  refine xm ?_; refine xe ?_; refine xe ?_
  refine y_new rfl (Zag rfl rfl rfl rfl) ?_
  refine y_new rfl (Zaa rfl rfl rfl rfl rfl rfl rfl rfl (Nat.le_of_ble_eq_true rfl) rfl) ?_
  refine xa ?_; refine AOps.nil (ARun.seq (ARun.seq (ARun.region ?_))); refine xm ?_; refine xn ?_; refine AOps.nil ?_
  refine ARun.condF rfl ?_
  refine ARun.skip (ARun.region ?_); refine xm ?_
  refine y_op rfl (q_fldP rfl rfl rfl (by decide)) ?_
  refine y_op rfl (Zac rfl rfl rfl rfl rfl) ?_
  refine y_op rfl (q_nil rfl rfl) ?_
  refine y_new rfl (Zad rfl rfl rfl rfl rfl rfl (Nat.le_of_ble_eq_true rfl) rfl) ?_
  refine AOps.nil ?_
  refine ARun.nil ?_
  exact ⟨rfl, rfl, rfl⟩
end Go.V
set_option synthInstance.maxSize 100000
set_option synthInstance.maxHeartbeats 2000000
namespace Go.V
open Go.RowKit Go.Proofs
def idxF (p : D → Bool) : List D → Nat → Int
  | [], _ => -1
  | d :: ds, i => bif p d then (i : Int) else idxF p ds (i + 1)
theorem idxF_any (p : D → Bool) : ∀ (ds : List D) (i : Nat), decide (idxF p ds i ≥ 0) = ds.any p
  | [], _ => by simp [idxF]
  | d :: ds, i => by
    simp only [idxF, List.any_cons]
    have ih := idxF_any p ds (i + 1)
    by_cases h : p d = true
    · simp [h]
    simp only [Bool.not_eq_true] at h
    simp only [h, cond_false, Bool.false_or]
    exact ih
theorem idxF_drop {p : D → Bool} {ds : List D} {i : Nat} {d : D} (h : ds[i]? = some d) : idxF p (ds.drop i) i = bif p d then (i : Int) else idxF p (ds.drop (i + 1)) (i + 1) := by
  have hl := (List.getElem?_eq_some_iff.1 h).1
  have he := (List.getElem?_eq_some_iff.1 h).2
  rw [List.drop_eq_getElem_cons hl, idxF, he]
theorem Znl (ds : List D) (n : Nat) (hn : ds.length = n) (f : FuncId) (caps : List D) (p : D → Bool) (hc : D.pure.pures caps = true) (hf : ∀ d ∈ ds, PC C f ([d] ++ caps) (fun o => o = .ret (.bool (p d)))) : PC C Zba [.sl n ds, .clos f caps] (fun o => o = .ret (.int .i64 (idxF p ds 0))) := by
  refine PC.run Zax Za3 rfl Za4 (by simp [D.pure.pures, D.pure, hc]) (rs := [.tmp 4]) (by rw [Za5]) (by simp only [List.length_cons, List.length_nil, Nat.reduceAdd, Nat.reduceSub, List.replicate_succ, List.replicate_zero, List.cons_append, List.nil_append]; exact rfl) ?_
  refine ARun.lenle 0 rfl (fun hlen => ?_)
  rw [maxLen_eq] at hlen
  refine ARun.seq (ARun.region ?_); refine xa ?_; refine AOps.nil (ARun.seq (ARun.seq (ARun.region ?_))); refine xm ?_; refine xN ?_; refine xm ?_; refine AOps.nil (ARun.block ?_)
  refine ARun.loopI (S := Nat) (fun i : Nat => [(4, .any), (5, .any), (9, .any), (10, .any), (11, .any), (12, .any), (13, .any), (14, .any), (15, .any), (16, .any), (17, .any), (18, .any), (8, .int .i64 (i : Int))]) (fun i : Nat => []) (fun i : Nat => i ≤ n ∧ idxF p (ds.drop i) i = idxF p ds 0) (fun i : Nat => n - i) (0) ?_ ?_ ?_ ?_
  · exact ⟨Nat.zero_le _, rfl⟩
  · (repeat' first | exact envLe_nil | apply envLe_any | apply envLe_same)
  · rfl
  rintro i hinv ih
  obtain ⟨hi, he⟩ := hinv
  refine ARun.seq (ARun.region ?_); refine xi ?_; refine AOps.nil (ARun.seq ?_)
  refine ARun.ite rfl (fun h => ?_) (fun h => ?_)
  · skip
    have hlt : i < ds.length := by omega
    obtain ⟨d, hd⟩ : ∃ d, ds[i]? = some d := ⟨ds[i], by simp [hlt]⟩
    have hx := idxF_drop (p := p) hd
    refine ARun.skip (ARun.seq (ARun.block (ARun.seq (ARun.region ?_)))); refine xm ?_; refine xa ?_; refine AOps.nil (ARun.seq (ARun.region ?_)); refine xm ?_; refine xm ?_; refine xm ?_
    refine y_op rfl (Zaj rfl rfl rfl rfl (by omega) (by omega) (fun e => by rw [e] at hlt; simp at hlt) (drop_nat rfl)) ?_
    refine y_op rfl (q_load rfl rfl rfl (by rw [List.getElem?_drop]; exact hd)) ?_
    refine xc rfl rfl (hf d (List.mem_of_getElem? hd)) ?_
    refine AOps.nil ?_
    refine ARun.cond rfl (fun hp => ?_) (fun hp => ?_)
    · skip
      refine ARun.seq (ARun.region ?_); refine xm ?_; refine xa ?_; refine AOps.nil ?_
      refine ARun.ret ?_
      refine ⟨_, _, _, .tmp rfl .nil, .cons (.same _) .nil, rfl, ?_⟩
      rw [← he, hx, hp]
      rfl
    refine ARun.skip (ARun.inBlock (ARun.region ?_))
    refine y_op rfl (q_add rfl rfl (nadd1_i64 (by omega))) ?_
    refine xm ?_; refine AOps.nil ?_
    refine ARun.again (ih ((i + 1)) ?_ ?_) ?_ ?_
    · exact ⟨by omega, by rw [← he, hx, hp]; rfl⟩
    · omega
    · (repeat' first | exact envLe_nil | apply envLe_any | apply envLe_same)
    rfl
  refine ARun.exit rfl ?_
  refine ARun.seq (ARun.region ?_); refine xa ?_; refine AOps.nil ?_
  refine ARun.ret ?_
  refine ⟨_, _, _, .tmp rfl .nil, .cons (.same _) .nil, rfl, ?_⟩
  rw [← he, List.drop_of_length_le (by omega)]
  rfl
end Go.V
set_option synthInstance.maxSize 100000
set_option synthInstance.maxHeartbeats 2000000
namespace Go.V
open Go.RowKit Go.Proofs
theorem ZkJ (ds : List D) (n : Nat) (hn : ds.length = n) (f : FuncId) (caps : List D) (p : D → Bool) (hc : D.pure.pures caps = true) (hf : ∀ d ∈ ds, PC C f ([d] ++ caps) (fun o => o = .ret (.bool (p d)))) : PC C ZaS [.sl n ds, .clos f caps] (fun o => o = .ret (.bool (ds.any p))) := by
  refine PC.run Zar ZaN rfl ZaO (by simp [D.pure.pures, D.pure, hc]) (rs := [.tmp 4]) (by rw [ZaP]) (by simp only [List.length_cons, List.length_nil, Nat.reduceAdd, Nat.reduceSub, List.replicate_succ, List.replicate_zero, List.cons_append, List.nil_append]; exact rfl) ?_
  refine ARun.seq (ARun.region ?_); refine xa ?_; refine AOps.nil (ARun.seq (ARun.region ?_)); refine xm ?_; refine xm ?_
  refine xc rfl rfl (Znl ds n hn f caps p hc hf) ?_
  refine xi ?_; refine xa ?_; refine AOps.nil ?_
  refine ARun.ret ?_
  refine ⟨_, _, _, .tmp rfl .nil, .cons (.same _) .nil, rfl, ?_⟩
  rw [← idxF_any p ds 0]
  rfl
end Go.V
