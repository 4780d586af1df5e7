/- Rules for steps and contracts of functions, each proved; no condition. -/
import Derived.Test.YtaglofmanchabaaGreatDoorA05
set_option linter.unusedVariables false
set_option linter.unusedSimpArgs false
set_option linter.unnecessarySimpa false
set_option maxHeartbeats 2000000
set_option synthInstance.maxHeartbeats 2000000
set_option synthInstance.maxSize 100000
namespace Go.V
open Go.RowKit Go.Proofs
theorem Zlb (d off : Nat) (pre ws post : List Nat) (o2 : Option AObj) (ho : pre.length = off) (hu : U32 ws) (hL : 2 ≤ (lim d).length) (hN : (lim d).length ≤ 549755813888) (hv : 2147483648 ≤ dig d ((lim d).length - 1)) (hl : ws.length = (lim d).length + 1) (hlt : val ws < B * d) :
    HC C 295 [some ⟨nts .u32 (pre ++ ws ++ post), Zs, 1, true, none⟩, o2] [.sub 0 off ((lim d).length + 1), numD d] (fun o H' => ∃ zs, U32 zs ∧ zs.length = (lim d).length + 1 ∧ val zs = val ws % d ∧ o = .ret (.int .u32 (val ws / d : Nat)) ∧ H' = [some ⟨nts .u32 (pre ++ zs ++ post), Zs, 1, true, none⟩, o2]) := by
  have k := Kn.of (m := (lim d).length - 2) (n := (lim d).length) (by omega) rfl hv hu hl hlt;have b0 := k.hu0';have b1 := k.hu1';have b2 := k.hu2';have b3 := k.hv1';have b4 := k.hv2';have q0 := k.first;rw [B_two] at q0;have q1 : min ((ws.getD ((lim d).length - 1) 0 + ws.getD (lim d).length 0 * 2 ^ 32) / dig d ((lim d).length - 1)) 4294967295 * dig d ((lim d).length - 1) ≤ ws.getD ((lim d).length - 1) 0 + ws.getD (lim d).length 0 * 2 ^ 32 := Nat.le_trans (Nat.mul_le_mul_right _ (Nat.min_le_left _ _)) (Nat.div_mul_le_self _ _);have q2 : min ((ws.getD ((lim d).length - 1) 0 + ws.getD (lim d).length 0 * 2 ^ 32) / dig d ((lim d).length - 1)) 4294967295 ≤ 4294967295 := Nat.min_le_right _ _;refine HC.run Zft Zin rfl Zio (rs := [.tmp 4]) (by rw [Zip]) (by simp only [List.length_cons, List.length_nil, Nat.reduceAdd, Nat.reduceSub, List.replicate_succ, List.replicate_zero, List.cons_append, List.nil_append]; exact rfl) ?_;refine go ?_;refine zdr 13 mixC ?_;refine gd ?_;refine .op rfl (Zd1 rfl rfl rfl rfl (by omega) (by omega) (Zff rfl)) ?_;refine .op rfl (ZC rfl rfl rfl rfl (ZdQ (by assumption) (by omega))) ?_;refine .op rfl (Zo rfl rfl rfl (Zt (by omega))) ?_;refine .op rfl (ZfN rfl rfl (by omega) (ZcA (s := 32) rfl (by omega) (by omega))) ?_;refine gd ?_;refine .op rfl (Zk rfl rfl (ZY (by omega) (by omega))) ?_;refine .op rfl (Zd1 rfl rfl rfl rfl (by omega) (by omega) (Zff rfl)) ?_;refine .op rfl (ZC rfl rfl rfl rfl (ZdQ (by assumption) (by omega))) ?_;refine .op rfl (Zo rfl rfl rfl (Zt (by omega))) ?_;refine .op rfl (q_orR rfl rfl (Zji (s := 32) (by omega) (by omega))) ?_;refine .nil (fun hG => ?_);refine gn ?_;refine Za rfl (Zk rfl rfl (ZY (by omega) (by omega))) ?_;refine Za rfl (Zm rfl rfl rfl rfl (by omega) (by omega) (Zam (by omega)) (ZM rfl)) ?_;refine Za rfl (ZP rfl rfl rfl (Zaj (by omega))) ?_;refine Za rfl (Zo rfl rfl rfl (Zt (by omega))) ?_;refine Za rfl (ZaQ rfl rfl (by omega) (ZeP rfl (by omega))) ?_;refine Za rfl (ZhR rfl rfl (nmin (n := 4294967295))) ?_;refine gn ?_;refine Za rfl (Zk rfl rfl (ZY (by omega) (by omega))) ?_;refine Za rfl (Zm rfl rfl rfl rfl (by omega) (by omega) (Zam (by omega)) (ZM rfl)) ?_;refine Za rfl (ZP rfl rfl rfl (Zaj (by omega))) ?_;refine Za rfl (Zo rfl rfl rfl (Zt (by omega))) ?_;refine Za rfl (ZaC rfl rfl (Zdv (by omega))) ?_;refine Za rfl (Zk rfl rfl (Zeb (by omega) (by omega))) ?_;refine go ?_;refine Znw (S := Nat × Nat) (fun σ : Nat × Nat => [(45, .any), (46, .any), (47, .any), (48, .any), (49, .any), (50, .any), (51, .any), (52, .any), (53, .any), (54, .any), (55, .any), (56, .any), (57, .any), (58, .any), (59, .any), (60, .any), (61, .any), (62, .any), (63, .any), (64, .any), (65, .any), (66, .any), (67, .any), (68, .any), (69, .any), (70, .any), (71, .any), (72, .any), (73, .any), (74, .any), (75, .any), (76, .any), (7, .int .u64 (σ.1 : Int)), (8, .int .u64 (σ.2 : Int))]) (fun σ : Nat × Nat => [some ⟨nts .u32 (pre ++ ws ++ post), Zs, 1, true, none⟩, o2]) (fun σ : Nat × Nat => σ.1 < 4294967296 ∧ val ws / d ≤ σ.1 ∧ σ.1 * dig d ((lim d).length - 1) + σ.2 = ws.getD ((lim d).length - 1) 0 + ws.getD (lim d).length 0 * 2 ^ 32) (fun σ : Nat × Nat => σ.1) ((min ((ws.getD ((lim d).length - 1) 0 + ws.getD (lim d).length 0 * 2 ^ 32) / dig d ((lim d).length - 1)) 4294967295, ws.getD ((lim d).length - 1) 0 + ws.getD (lim d).length 0 * 2 ^ 32 - min ((ws.getD ((lim d).length - 1) 0 + ws.getD (lim d).length 0 * 2 ^ 32) / dig d ((lim d).length - 1)) 4294967295 * dig d ((lim d).length - 1))) ?_ ?_
  · exact ⟨Nat.lt_succ_of_le q2, q0, by dsimp only; omega⟩
  rintro ⟨q, r⟩ hinv ih;dsimp only at hinv ih ⊢;obtain ⟨hq, hle, hqr⟩ := hinv;have b5 := Zcj hq b4;refine ARun.seq (ARun.seq ?_);refine Zny (S := Bool) (fun t : Bool => [(45, .any), (46, .any), (47, .any), (48, .any), (49, .any), (50, .any), (51, .any), (52, .any), (53, .any), (54, .any), (55, .any), (56, .any), (57, .any), (58, .any), (59, .any), (60, .any), (61, .any), (62, .any), (63, .any), (64, .any), (65, .any), (66, .bool t)]) (fun t : Bool => (t = true → r < 4294967296 ∧ r * 2 ^ 32 + ws.getD ((lim d).length - 2) 0 < q * dig d ((lim d).length - 2)) ∧ (t = false → q * dig d ((lim d).length - 2) ≤ r * 2 ^ 32 + ws.getD ((lim d).length - 2) 0)) (fun run => ?_) ?_
  · rcases Nat.lt_or_ge r 4294967296 with hr | hr
    · skip
      refine zdr 22 mixC ?_;refine zdm ?_;refine .op rfl (Zb9 rfl rfl rfl (decide_eq_true (by omega))) ?_;refine gd ?_;refine .op rfl (Zk rfl rfl (Zc3 (n := 2) (by omega) (by omega))) ?_;refine .op rfl (Zm rfl rfl rfl rfl (by omega) (by omega) (Zam (by omega)) (ZM rfl)) ?_;refine .op rfl (ZP rfl rfl rfl (Zaj (by omega))) ?_;refine .op rfl (Zo rfl rfl rfl (Zt (by omega))) ?_;refine .op rfl (ZaC rfl rfl (Zdv (by omega))) ?_;refine zdm ?_;refine .op rfl (ZfN rfl rfl (by omega) (ZcA (s := 32) rfl (by omega) (by omega))) ?_;refine gd ?_;refine .op rfl (Zk rfl rfl (Zc3 (n := 2) (by omega) (by omega))) ?_;refine .op rfl (Zd1 rfl rfl rfl rfl (by omega) (by omega) (Zff rfl)) ?_;refine .op rfl (ZC rfl rfl rfl rfl (ZdQ (by assumption) (by omega))) ?_;refine .op rfl (Zo rfl rfl rfl (Zt (by omega))) ?_;refine .op rfl (q_orR rfl rfl (Zji (s := 32) (by omega) (by omega))) ?_;refine .op rfl (Zaa rfl rfl rfl) ?_;refine .op rfl (Zaw rfl rfl rfl rfl) ?_;refine .nil (fun hG => ?_);refine AOps.nil ?_;exact ARun.ag (run (decide (((q * dig d ((lim d).length - 2) : Nat) : Int) > ((ws.getD ((lim d).length - 2) 0 + r * 2 ^ 32 : Nat) : Int))) (⟨fun h => ⟨hr, by have := Zh h; omega⟩, fun h => by have := Zj h; omega⟩))
    refine zdr 22 mixC ?_;refine zdm ?_;refine .op rfl (Zb9 rfl rfl rfl (decide_eq_false (by omega))) ?_;refine zdm ?_;refine .skip rfl ?_;refine .skip rfl ?_;refine .skip rfl ?_;refine .skip rfl ?_;refine .skip rfl ?_;refine .skip rfl ?_;refine .skip rfl ?_;refine .skip rfl ?_;refine .skip rfl ?_;refine .skip rfl ?_;refine .skip rfl ?_;refine .skip rfl ?_;refine .skip rfl ?_;refine .skip rfl ?_;refine .skip rfl ?_;refine .skip rfl ?_;refine .skip rfl ?_;refine .skip rfl ?_;refine .op rfl (Zaw rfl rfl rfl rfl) ?_;refine .nil (fun hG => ?_);refine AOps.nil ?_;exact ARun.ag (run (false) (⟨fun h => (by cases h), fun _ => by have := k.big (q := q) (r := r) hq hr; rw [B_two] at this; exact this⟩))
  rintro t hj
  try dsimp only at hj ⊢
  obtain ⟨j1, j2⟩ := hj;refine ARun.cond rfl (fun h => ?_) (fun h => ?_)
  · skip
    obtain ⟨r1, r2⟩ := j1 h;obtain ⟨l1, l2⟩ := k.low (q := q) (r := r) (by rw [B_two]; exact hqr) (by rw [B_two]; exact r2);refine gn ?_;refine Za rfl (Zk rfl rfl (Zeb (n := 1) (by omega) (by omega))) ?_;refine gn ?_;refine Za rfl (Zk rfl rfl (ZY (by omega) (by omega))) ?_;refine Za rfl (Zm rfl rfl rfl rfl (by omega) (by omega) (Zam (by omega)) (ZM rfl)) ?_;refine Za rfl (ZP rfl rfl rfl (Zaj (by omega))) ?_;refine Za rfl (Zo rfl rfl rfl (Zt (by omega))) ?_;refine Za rfl (Zf rfl rfl (Zaf (by omega))) ?_;refine go ?_;refine ARun.ag (ih ((q - 1, r + dig d ((lim d).length - 1))) ?_ ?_)
    · exact ⟨by dsimp only; omega, l1, by dsimp only; rw [Nat.sub_mul, Nat.one_mul]; have := Nat.mul_le_mul_right (dig d ((lim d).length - 1)) l2; omega⟩
    (dsimp only; omega)
  have hd0 := ZcV d;have hpos : 0 < B ^ (lim d).length := Nat.pow_pos Zbj;have hup := k.high (q := q) (r := r) hq (by rw [B_two]; exact hqr) (by rw [B_two]; exact j2 h)
  have hqd : q * d < B ^ ((lim d).length + 1) := by
    rw [Nat.pow_succ, Nat.mul_comm];exact Nat.mul_lt_mul'' hd0 (by rw [B_eq]; exact hq)
  have hdn : d < B ^ ((lim d).length + 1) := Nat.lt_of_lt_of_le hd0 (Nat.pow_le_pow_right Zbj (Nat.le_succ _));refine ARun.exit rfl ?_;refine go ?_;refine Ziy rfl rfl rfl rfl (ZmM d q ((lim d).length + 1) off pre ws post o2 ho hu hl (by omega) hq hqd hdn) (fun d1 H1 hR => ?_) (fun d1 H1 hR => by obtain ⟨zs, bw, _, _, _, _, z, _⟩ := hR; cases z);obtain ⟨zs, bw, z1, z2, z3, z4, z5, rfl⟩ := hR
  injection z5 with z5
  subst z5;have z6 := Zec z1;rw [z2] at z6;refine AOps.nil ?_;refine Znp rfl (fun hb => ?_) (fun hb => ?_)
  · skip
    have hbw : bw = 1 := by omega
    subst hbw;obtain ⟨e1, e2⟩ := k.back (q := q) (by omega) hup
    have hq1 : 1 ≤ q := by
      rcases Nat.eq_zero_or_pos q with h0 | h0
      · rw [h0, Nat.zero_mul] at z4; omega
      exact h0
    refine gn ?_;refine Za rfl (Zk rfl rfl (Zeb (n := 1) (by omega) (by omega))) ?_;refine go ?_;refine Za rfl (ZiR rfl rfl) ?_;refine go ?_;refine Znw (S := Nat × Nat × List Nat) (fun σ : Nat × Nat × List Nat => [(10, .any), (86, .any), (87, .any), (88, .any), (89, .any), (90, .any), (91, .any), (92, .any), (93, .any), (94, .any), (95, .any), (96, .any), (97, .any), (98, .any), (99, .any), (100, .any), (101, .any), (102, .any), (103, .any), (104, .any), (105, .any), (106, .any), (85, .int .i64 (σ.1 : Int)), (9, .int .u64 (σ.2.1 : Int))]) (fun σ : Nat × Nat × List Nat => [some ⟨nts .u32 (pre ++ σ.2.2 ++ post), Zs, 1, true, none⟩, o2]) (fun σ : Nat × Nat × List Nat => U32 σ.2.2 ∧ σ.2.2.length = (lim d).length + 1 ∧ σ.1 ≤ (lim d).length + 1 ∧ σ.2.1 ≤ 1 ∧ (∀ p, σ.1 ≤ p → σ.2.2.getD p 0 = zs.getD p 0) ∧ val (σ.2.2.take σ.1) + B ^ σ.1 * σ.2.1 = val (zs.take σ.1) + d % B ^ σ.1) (fun σ : Nat × Nat × List Nat => (lim d).length + 1 - σ.1) ((0, 0, zs)) ?_ ?_
    · exact ⟨z1, z2, by simp, by simp, fun p _ => rfl, by simp [val, Nat.mod_one]⟩
    rintro ⟨i, c, ys⟩ hinv2 ih2;dsimp only at hinv2 ih2 ⊢;obtain ⟨y1, y2, y3, y4, y5, y6⟩ := hinv2;refine go ?_;refine Znp rfl (fun hi => ?_) (fun hi => ?_)
    · skip
      have g1 := y1.get i;have g2 := ZF d i;refine go ?_;refine zdr 11 mixC ?_;refine gd ?_;refine .op rfl (Zd1 rfl rfl rfl rfl (by omega) (by omega) (Zff rfl)) ?_;refine .op rfl (ZC rfl rfl rfl rfl (ZdQ (by assumption) (by omega))) ?_;refine .op rfl (Zo rfl rfl rfl (Zt (by omega))) ?_;refine gd ?_;refine .op rfl (Zb rfl rfl (ZcP d i)) ?_;refine .op rfl (Zf rfl rfl (Zaf (by omega))) ?_;refine .op rfl (Zf rfl rfl (Zaf (by omega))) ?_;refine .nil (fun hG => ?_);refine go ?_;refine Za rfl (Zo rfl rfl rfl ZX) ?_;refine Za rfl (Zd1 rfl rfl rfl rfl (by omega) (by omega) (Zff rfl)) ?_;refine Zq rfl (Zad rfl rfl rfl rfl rfl rfl (by simp; omega) (Zgb (by assumption) (by omega))) ?_;refine gn ?_;refine Za rfl (Za5 rfl rfl (by omega) Zcn) ?_;refine gn ?_;refine Za rfl (Zf rfl rfl (Zi (by omega))) ?_;refine go ?_;refine ZnC (ih2 ((i + 1, (c + (ys.getD i 0 + dig d i)) / 4294967296, ys.set i ((c + (ys.getD i 0 + dig d i)) % 4294967296))) ?_ ?_) ?_ ?_
      · (obtain ⟨k1, k2, k3, k4⟩ := ZhV y1 y2 z2 (by omega) y4 (y5 i (Nat.le_refl _)) y6; exact ⟨k1, k2, by dsimp only; omega, k3, fun p hp => by rw [ZbF (by omega)]; exact y5 p (by omega), k4⟩)
      · (dsimp only; omega)
      · (repeat' first | exact Zag | apply Zah | apply Z4)
      rfl
    have hin : i = (lim d).length + 1 := by omega
    subst hin;have hf := back_end y2 z2 hdn y1 y4 y6 z6 (by omega);refine ARun.exit rfl ?_;refine go ?_;refine Za rfl (Zo rfl rfl rfl ZX) ?_;refine go ?_;refine ARun.ret ?_;refine ⟨_, _, _, .tmp rfl .nil, .cons (.same _) .nil, ?_⟩;have hm : (q - 1) % 4294967296 = q - 1 := Nat.mod_eq_of_lt (Nat.lt_of_le_of_lt (Nat.sub_le q 1) hq);exact ⟨ys, y1, y2, by rw [← e2]; omega, by rw [← e1, hm]; rfl, rfl⟩
  have hbw : bw = 0 := by omega
  subst hbw;obtain ⟨e1, e2⟩ := k.exact (q := q) hle (by omega);refine go ?_;refine Za rfl (Zo rfl rfl rfl ZX) ?_;refine go ?_;refine ARun.ret ?_;refine ⟨_, _, _, .tmp rfl .nil, .cons (.same _) .nil, ?_⟩;have hm : q % 4294967296 = q := Nat.mod_eq_of_lt hq;exact ⟨zs, z1, z2, by rw [← e2]; omega, by rw [← e1, hm]; rfl, rfl⟩
theorem ZjX {xs : List Nat} (hu : U32 xs) {j n : Nat} (h : val (xs.drop j) < B ^ n) : val (xs.drop (j + n)) = 0 := by
  have e : xs.drop j = (xs.drop j).take n ++ xs.drop (j + n) := by
    have := List.take_append_drop n (xs.drop j);rw [List.drop_drop] at this;exact this.symm
  rw [e, ZV] at h
  by_cases hl : n ≤ (xs.drop j).length
  · rw [List.length_take, Nat.min_eq_left hl] at h
    rcases Nat.eq_zero_or_pos (val (xs.drop (j + n))) with h0 | h0
    · exact h0
    have : B ^ n * 1 ≤ B ^ n * val (xs.drop (j + n)) := Nat.mul_le_mul_left _ h0;omega
  have : xs.drop (j + n) = [] := by
    rw [List.drop_eq_nil_iff];rw [List.length_drop] at hl;omega
  rw [this]; rfl
theorem Zgc (xs : List Nat) (i n : Nat) : xs = xs.take i ++ (xs.drop i).take n ++ xs.drop (i + n) := by
  rw [List.append_assoc];have h2 := List.take_append_drop n (xs.drop i);rw [List.drop_drop] at h2;rw [h2, List.take_append_drop]
structure Ld (A d n i : Nat) (rs qs : List Nat) : Prop where
  ur : U32 rs
  uq : U32 qs
  hr : val (rs.drop i) < d
  eq : val (qs.drop i) * d * B ^ i + val rs = A
theorem Ld.win {A d n i : Nat} {rs qs : List Nat} (h : Ld A d n (i + 1) rs qs) (hd : d < B ^ n) (hl : i + n + 1 ≤ rs.length) :
    val (rs.drop (i + (n + 1))) = 0 ∧ val ((rs.drop i).take (n + 1)) < B * d ∧ val rs = val (rs.take i) + B ^ i * val ((rs.drop i).take (n + 1)) := by
  have h0 : val (rs.drop (i + 1 + n)) = 0 := ZjX h.ur (Nat.lt_trans h.hr hd)
  have e1 : i + (n + 1) = i + 1 + n := by omega
  have hv : val rs = val (rs.take i) + B ^ i * val ((rs.drop i).take (n + 1)) := by
    have hw : val rs = val (rs.take i ++ (rs.drop i).take (n + 1) ++ rs.drop (i + (n + 1))) := by rw [← Zgc]
    rw [ZV, ZV, e1, h0, Nat.mul_zero, Nat.add_zero, List.length_take, Nat.min_eq_left (by omega)] at hw;exact hw
  refine ⟨by rw [e1]; exact h0, ?_, hv⟩
  have e2 : (rs.drop i).take (n + 1) = rs.getD i 0 :: (rs.drop (i + 1)).take n := by
    rw [List.drop_eq_getElem_cons (by omega), List.take_succ_cons]
    congr 1
    rw [List.getD_eq_getElem?_getD, List.getElem?_eq_getElem (by omega)];rfl
  have e3 : val (rs.drop (i + 1)) = val ((rs.drop (i + 1)).take n) := by
    have hw := congrArg val (List.take_append_drop n (rs.drop (i + 1)));rw [ZV, List.drop_drop, h0, Nat.mul_zero, Nat.add_zero] at hw;exact hw.symm
  have h1 := h.hr;rw [e3] at h1;have h2 := h.ur.get i;have h3 : B * (val ((rs.drop (i + 1)).take n) + 1) ≤ B * d := Nat.mul_le_mul_left _ h1;rw [e2, val];rw [Nat.mul_add] at h3;have := B_eq;omega
theorem Ld.step {A d n i : Nat} {rs qs zs : List Nat} (h : Ld A d n (i + 1) rs qs) (hd : d < B ^ n) (hl : i + n + 1 ≤ rs.length) (hql : i < qs.length) (hz : U32 zs) (hzl : zs.length = n + 1) (hzv : val zs = val ((rs.drop i).take (n + 1)) % d) (hd0 : 0 < d) :
    Ld A d n i (rs.take i ++ zs ++ rs.drop (i + (n + 1))) (qs.set i (val ((rs.drop i).take (n + 1)) / d)) := by
  obtain ⟨w1, w2, w3⟩ := h.win hd hl;have hq : val ((rs.drop i).take (n + 1)) / d < B := (Nat.div_lt_iff_lt_mul hd0).2 w2
  have hlen : (rs.take i).length = i := by rw [List.length_take]; omega
  refine ⟨?_, h.uq.set (by rw [← B_eq]; exact hq), ?_, ?_⟩
  · intro x hx
    rcases List.mem_append.1 hx with hx | hx
    · rcases List.mem_append.1 hx with hx | hx
      · exact h.ur.take i x hx
      exact hz x hx
    exact h.ur.drop _ x hx
  · have e : (rs.take i ++ zs ++ rs.drop (i + (n + 1))).drop i = zs ++ rs.drop (i + (n + 1)) := by
      rw [List.append_assoc, List.drop_append_of_le_length (by omega), List.drop_of_length_le (by omega), List.nil_append]
    rw [e, ZV, w1, Nat.mul_zero, Nat.add_zero, hzv];exact Nat.mod_lt _ hd0
  have e1 : (qs.set i (val ((rs.drop i).take (n + 1)) / d)).drop i = val ((rs.drop i).take (n + 1)) / d :: qs.drop (i + 1) := by
    rw [List.drop_eq_getElem_cons (by rw [List.length_set]; exact hql), List.getElem_set_self, List.drop_set_of_lt (Nat.lt_succ_self i)]
  rw [e1, val, ZV, ZV, w1, Nat.mul_zero, Nat.add_zero, hlen, hzv];have h4 := h.eq;rw [w3, Nat.pow_succ] at h4;generalize val ((rs.drop i).take (n + 1)) = w at h4 ⊢;have h5 := Nat.div_add_mod w d
  have h6 : B ^ i * w = B ^ i * (d * (w / d)) + B ^ i * (w % d) := by rw [← Nat.mul_add, h5]
  have h7 : (w / d + B * val (qs.drop (i + 1))) * d * B ^ i = B ^ i * (d * (w / d)) + val (qs.drop (i + 1)) * d * (B ^ i * B) := by
    rw [Nat.add_mul, Nat.add_mul]
    congr 1 <;> simp only [Nat.mul_comm, Nat.mul_left_comm, Nat.mul_assoc]
  omega
theorem Ld.fin {A d n : Nat} {rs qs : List Nat} (h : Ld A d n 0 rs qs) : val qs = A / d ∧ val rs = A % d := by
  have h1 := h.eq;have h2 := h.hr;rw [List.drop_zero, Nat.pow_zero, Nat.mul_one] at h1;rw [List.drop_zero] at h2
  have hd : 0 < d := by omega
  constructor
  · rw [← h1, Nat.mul_comm, Nat.mul_add_div hd, Nat.div_eq_of_lt h2, Nat.add_zero]
  rw [← h1, Nat.mul_comm, Nat.mul_add_mod, Nat.mod_eq_of_lt h2]
theorem norm_top {b s : Nat} (hL : 0 < (lim b).length) (hs : s = 32 - bl (dig b ((lim b).length - 1))) : s < 32 ∧ (lim (b * 2 ^ s)).length = (lim b).length ∧ 2147483648 ≤ dig (b * 2 ^ s) ((lim b).length - 1) := by
  obtain ⟨t1, t2⟩ := ZhT hL;have h1 : 1 ≤ bl (dig b ((lim b).length - 1)) := ZfO.2 (by rw [t1]; exact t2);have h2 : bl (dig b ((lim b).length - 1)) ≤ 32 := Zby.2 (ZF _ _)
  have hs32 : s < 32 := by omega
  have hbl : bl b = 32 * ((lim b).length - 1) + bl (dig b ((lim b).length - 1)) := Zjj hL
  have hb2 : bl (b * 2 ^ s) = 32 * (lim b).length := by
    have h3 : bl (b * 2 ^ s) = s + bl b := by
      have hb0 : 1 ≤ b := by have := ZB.1 hL; omega
      have := Zeu (n := b * 2 ^ s) (k := s) (by have := Nat.mul_le_mul_right (2 ^ s) hb0; omega)
      rwa [Nat.mul_div_cancel _ (Nat.two_pow_pos s)] at this
    omega
  have hlen : (lim (b * 2 ^ s)).length = (lim b).length := by
    have h4 : (lim (b * 2 ^ s)).length ≤ (lim b).length := by rw [Z6, ZdH, ← Zby]; omega
    have h5 := Zbk (b * 2 ^ s);omega
  refine ⟨hs32, hlen, ?_⟩;have h6 := Zjj (a := b * 2 ^ s) (by omega);rw [hlen] at h6;exact ZfO.1 (show 31 < bl (dig (b * 2 ^ s) ((lim b).length - 1)) by omega)
theorem nts_copy {k : IntKind} {xs ys : List Nat} {m : Nat} : nts k xs ++ (nts k ys).drop m = nts k (xs ++ ys.drop m) := by
  simp [nts, List.map_drop]
theorem Zjl {xs : List Nat} (hu : U32 xs) (j : Nat) : val (xs.drop j) = val xs / B ^ j := by
  by_cases h : j ≤ xs.length
  · have e := congrArg val (List.take_append_drop j xs)
    rw [ZV, List.length_take, Nat.min_eq_left h] at e;have h2 := Zec (hu.take j);rw [List.length_take, Nat.min_eq_left h] at h2;rw [← e, Nat.add_mul_div_left _ _ (Nat.pow_pos Zbj), Nat.div_eq_of_lt h2, Nat.zero_add]
  have h1 : xs.drop j = [] := by rw [List.drop_eq_nil_iff]; omega
  rw [h1, Nat.div_eq_of_lt (Nat.lt_of_lt_of_le (Zec hu) (Nat.pow_le_pow_right Zbj (by omega)))];rfl
theorem val_pad (n L : Nat) : val (lim n ++ (List.replicate L 0).drop (lim n).length) = n ∧ U32 (lim n ++ (List.replicate L 0).drop (lim n).length) := by
  rw [List.drop_replicate];refine ⟨by rw [ZV, Zcz, Zl, Nat.mul_zero, Nat.add_zero], fun x hx => ?_⟩
  rcases List.mem_append.1 hx with h | h
  · exact Zz n x h
  exact U32.replicate x h
theorem ld_init {a b s J L : Nat} (h1 : 0 < (lim (b * 2 ^ s)).length) (hs : s < 32) (hv : 2147483648 ≤ dig (b * 2 ^ s) ((lim (b * 2 ^ s)).length - 1)) (hJ : J + (lim (b * 2 ^ s)).length = (lim a).length + 1) : Ld (a * 2 ^ s) (b * 2 ^ s) (lim (b * 2 ^ s)).length J (lim (a * 2 ^ s) ++ (List.replicate L 0).drop (lim (a * 2 ^ s)).length) (List.replicate J 0) := by
  obtain ⟨p1, p2⟩ := val_pad (a * 2 ^ s) L;refine ⟨p2, U32.replicate, ?_, ?_⟩
  · rw [Zjl p2, p1, Nat.div_lt_iff_lt_mul (Nat.pow_pos Zbj)]
    obtain ⟨t1, _⟩ := ZhT h1;rw [t1] at hv;have h2 := (Nat.le_div_iff_mul_le (Nat.pow_pos Zbj)).1 hv
    have h3 : 2 ^ s ≤ 2147483648 := by
      have : 2 ^ s ≤ 2 ^ 31 := Nat.pow_le_pow_right (by decide) (by omega);exact this
    have h4 : 2 ^ s * B ^ ((lim (b * 2 ^ s)).length - 1) ≤ b * 2 ^ s := Nat.le_trans (Nat.mul_le_mul_right _ h3) h2;have h5 : a * 2 ^ s < B ^ (lim a).length * 2 ^ s := Nat.mul_lt_mul_of_pos_right (ZcV a) (Nat.two_pow_pos s)
    have h6 : B ^ (lim a).length = B ^ ((lim (b * 2 ^ s)).length - 1) * B ^ J := by rw [← Nat.pow_add]; congr 1; omega
    have h7 := Nat.mul_le_mul_right (B ^ J) h4
    have h8 : 2 ^ s * B ^ ((lim (b * 2 ^ s)).length - 1) * B ^ J = B ^ (lim a).length * 2 ^ s := by rw [h6]; simp only [Nat.mul_comm, Nat.mul_left_comm, Nat.mul_assoc]
    omega
  rw [List.drop_of_length_le (by simp), p1];simp [val]
theorem ZgR (x : Nat) (hx : x < 4294967296) : PC C 294 [.int .u32 (x : Int)] (fun o => o = .ret (.int .i64 ((32 - bl x : Nat) : Int))) := by
  refine Znr Tryz.func294 Tryz.ntmps294 Tryz.results294 ?_;have h := @Zby x 32;refine go ?_;refine Zc rfl rfl (Zla x hx) ?_;refine Za rfl (Zk rfl rfl (Zc3 (m := 32) (by omega) (by omega))) ?_;refine go ?_;refine Zno ?_;rfl
def cmpI (a b : Nat) : Int := if a < b then -1 else if a = b then 0 else 1
theorem ZkE (hcmp : ∀ a b : Nat, (lim a).length ≤ 1099511627776 → (lim b).length ≤ 1099511627776 → PC C 142 [numD a, numD b] (fun o => o = .ret (.int .i64 (cmpI a b)))) (a b : Nat) (ha : (lim a).length ≤ 274877906944) (hb : (lim b).length ≤ 274877906944) (hb0 : 0 < b) : PC C 236 [numD a, numD b] (fun o => o = .ret (.tup [numD (a / b), numD (a % b)])) := by
  refine Znr Tryz.func236 Tryz.ntmps236 Tryz.results236 ?_;have hL := ZB.2 (Nat.pos_iff_ne_zero.1 hb0);refine go ?_;refine Znp rfl (fun h1 => ?_) (fun h1 => ?_)
  · skip
    have hb1 : dig b 0 = b := by
      have := Zci (a := b) (k := 1) (by omega);rw [dig, Nat.pow_zero, Nat.div_one]
      rwa [Nat.pow_one] at this
    have hbB := ZF b 0;rw [hb1] at hbB;refine go ?_;refine Za rfl (Zm rfl rfl rfl rfl (by omega) (by omega) (Zam (by omega)) (ZM (i := 0) rfl)) ?_;refine Za rfl (ZP rfl rfl rfl ((Zaj (by omega)).trans (by rw [hb1]))) ?_;refine Zc rfl rfl (ZkD a b (by omega) hb0 hbB) ?_;refine go ?_;refine ZnA ?_;rfl
  refine go ?_;refine Zc rfl rfl (hcmp a b (by omega) (by omega)) ?_;refine go ?_;refine Znp rfl (fun h2 => ?_) (fun h2 => ?_)
  · skip
    have hlt : a < b := by
      unfold cmpI at h2
      split at h2
      · assumption
      split at h2 <;> omega
    refine go ?_;refine ARun.ret ?_;refine ⟨_, _, _, .tmp rfl (.tmp rfl .nil), .cons .nil (.cons (.same _) .nil), rfl, ?_⟩
    have hz : numD 0 = .sl 0 [] := by rw [numD, ZA]; rfl
    rw [Nat.div_eq_of_lt hlt, Nat.mod_eq_of_lt hlt, hz];rfl
  have hge : b ≤ a := by
    unfold cmpI at h2
    split at h2
    · omega
    omega
  have hln := Zn hge;obtain ⟨s, hs⟩ : ∃ s, s = 32 - bl (dig b ((lim b).length - 1)) := ⟨_, rfl⟩;obtain ⟨s1, s2, s3⟩ := norm_top hL hs
  have hla : (lim (a * 2 ^ s)).length ≤ (lim a).length + 1 := by
    refine Nat.le_trans (Zco _ _) (Nat.add_le_add_left ?_ _);rw [Z6, Nat.pow_one];exact Nat.lt_of_lt_of_le ((Nat.pow_lt_pow_iff_right (by decide)).2 s1) (by decide)
  have hd0 : 0 < b * 2 ^ s := Nat.mul_pos hb0 (Nat.two_pow_pos s);have hdB : b * 2 ^ s < B ^ (lim b).length := Z6.1 (Nat.le_of_eq s2);refine gn ?_;refine Za rfl (Zk rfl rfl (ZY (by omega) (by omega))) ?_;refine Za rfl (Zm rfl rfl rfl rfl (by omega) (by omega) (Zam (by omega)) (ZM rfl)) ?_;refine Za rfl (ZP rfl rfl rfl (Zaj (by omega))) ?_;refine Zc rfl rfl (hs ▸ ZgR _ (ZF b ((lim b).length - 1))) ?_;refine go ?_;refine Zc rfl rfl (Zb5 b s (by omega) (by omega)) ?_;refine gn ?_;refine Za rfl (Zf rfl rfl (Zi (by omega))) ?_;refine Zq rfl (ZaG rfl rfl rfl rfl rfl rfl rfl (by omega) (by rw [Zy]; omega) (Za0 _)) ?_;refine go ?_;refine Zc rfl rfl (Zb5 a s (by omega) (by omega)) ?_;refine Zq rfl (n_copy rfl rfl rfl rfl rfl rfl rfl rfl (by simp) (by omega) nts_copy) ?_;refine go ?_;refine Za rfl (Zbv rfl rfl rfl) ?_;refine Zr ?_;refine Za rfl (Zk rfl rfl (Zc3 (by omega) (by omega))) ?_;refine Zq rfl (ZaG rfl rfl rfl rfl rfl rfl rfl (by omega) (by rw [Zy]; omega) (Za0 _)) ?_;refine go ?_;refine Za rfl (Zbv rfl rfl rfl) ?_;refine Za rfl (Zk rfl rfl (IntWalk.i64_in _ (by omega))) ?_;refine go ?_;refine Znw (S := Nat × List Nat × List Nat) (fun σ : Nat × List Nat × List Nat => [(58, .any), (59, .any), (60, .any), (61, .any), (62, .any), (63, .any), (64, .any), (65, .any), (66, .any), (67, .any), (68, .any), (69, .any), (70, .any), (71, .any), (72, .any), (73, .any), (11, .int .i64 ((σ.1 : Int) - 1))]) (fun σ : Nat × List Nat × List Nat => [some ⟨nts .u32 σ.2.1, Zs, 1, true, none⟩, some ⟨nts .u32 σ.2.2, Zs, 1, true, none⟩]) (fun σ : Nat × List Nat × List Nat => Ld (a * 2 ^ s) (b * 2 ^ s) (lim (b * 2 ^ s)).length σ.1 σ.2.1 σ.2.2 ∧ σ.2.1.length = (lim a).length + 1 ∧ σ.2.2.length = (lim a).length + 1 - (lim (b * 2 ^ s)).length ∧ σ.1 ≤ σ.2.2.length) (fun σ : Nat × List Nat × List Nat => σ.1) (((lim a).length + 1 - (lim (b * 2 ^ s)).length, lim (a * 2 ^ s) ++ (List.replicate ((lim a).length + 1) 0).drop (lim (a * 2 ^ s)).length, List.replicate ((lim a).length + 1 - (lim (b * 2 ^ s)).length) 0)) ?_ ?_
  · exact ⟨ld_init (by omega) s1 (by rw [s2]; exact s3) (by omega), by simp; omega, by simp, by simp⟩
  rintro ⟨j, rs, qs⟩ hinv ih;dsimp only at hinv ih ⊢;obtain ⟨hI, hrl, hql, hj⟩ := hinv;refine go ?_;refine Znp rfl (fun h3 => ?_) (fun h3 => ?_)
  · skip
    obtain ⟨i, rfl⟩ : ∃ i, j = i + 1 := ⟨j - 1, by omega⟩;rw [show (((i + 1 : Nat) : Int) - 1) = (i : Int) by omega];obtain ⟨w1, w2, w3⟩ := hI.win (by rw [s2]; exact hdB) (by omega);have hcE := Zlb (b * 2 ^ s) i (rs.take i) ((rs.drop i).take ((lim (b * 2 ^ s)).length + 1)) (rs.drop (i + ((lim (b * 2 ^ s)).length + 1))) (some ⟨nts .u32 qs, Zs, 1, true, none⟩) (by rw [List.length_take]; omega) ((hI.ur.drop i).take _) (by omega) (by omega) (by rw [s2]; exact s3) (by rw [List.length_take, List.length_drop]; omega) w2;rw [← Zgc] at hcE;refine gn ?_;refine Za rfl (Zf rfl rfl (Z1 (by omega))) ?_;refine Za rfl (Zf rfl rfl (Zi (by omega))) ?_;refine Za rfl (ZlK (m := (lim (b * 2 ^ s)).length + 1) rfl rfl rfl rfl rfl rfl (by omega) (by omega) (by omega) (Nat.mul_one _)) ?_;refine Zr ?_;refine Ziy rfl rfl rfl rfl hcE (fun d1 H1 hR => ?_) (fun d1 H1 hR => by obtain ⟨zs, _, _, _, z, _⟩ := hR; cases z);obtain ⟨zs, z1, z2, z3, z4, rfl⟩ := hR
    injection z4 with z4
    subst z4;have hst := hI.step (by rw [s2]; exact hdB) (by omega) (by omega) z1 z2 z3 hd0;refine Za rfl (ZS rfl rfl rfl rfl rfl (by omega) (by omega) (Zab rfl)) ?_;refine Zq rfl (Zad rfl rfl rfl rfl rfl rfl (by simp; omega) Zbi) ?_;refine gn ?_;refine Za rfl (Zk rfl rfl (IntWalk.i64_in _ (by omega))) ?_;refine go ?_;refine ARun.ag (ih ((i, rs.take i ++ zs ++ rs.drop (i + ((lim (b * 2 ^ s)).length + 1)), qs.set i (val ((rs.drop i).take ((lim (b * 2 ^ s)).length + 1)) / (b * 2 ^ s)))) ?_ ?_)
    · exact ⟨hst, by simp; omega, by simpa using hql, by simp; omega⟩
    (dsimp only; omega)
  have hj0 : j = 0 := by omega
  subst hj0;obtain ⟨f1, f2⟩ := hI.fin;refine ARun.exit rfl ?_;refine zzs ?_; refine Zr ?_;refine Zq rfl (Zcm rfl rfl (.cons (.row rfl (ZT _)) .nil) (ZcZ hI.uq hql) rfl) ?_;refine Zr ?_;refine Zq rfl (Zcm rfl rfl (.cons (.row rfl (ZT _)) .nil) (ZcZ hI.ur hrl) rfl) ?_;refine Zr ?_;refine Zc rfl rfl (ZiS _ s (by rw [f2]; exact Nat.le_trans (Zn (Nat.le_of_lt (Nat.mod_lt _ hd0))) (by omega)) (by omega)) ?_;refine go ?_;refine ZnA ?_;rw [f1, f2, Nat.mul_div_mul_right _ _ (Nat.two_pow_pos s), Nat.mul_mod_mul_right, Nat.mul_div_cancel _ (Nat.two_pow_pos s)]
  try rfl
def dl (n : Nat) : Nat := if h : n = 0 then 0 else dl (n / 10) + 1
termination_by n
decreasing_by exact Nat.div_lt_self (by omega) (by omega)
theorem Zem : dl 0 = 0 := by rw [dl, dif_pos rfl]
theorem ZhW {n : Nat} (h : 0 < n) : dl n = dl (n / 10) + 1 := by rw [dl, dif_neg (by omega)]
theorem Zgw {k : Nat} : ∀ {n : Nat}, dl n ≤ k ↔ n < 10 ^ k := by
  induction k with
  | zero =>
    intro n
    rcases Nat.eq_zero_or_pos n with h | h
    · subst h; simp [Zem]
    rw [ZhW h]; simp; omega
  | succ k ih =>
    intro n
    rcases Nat.eq_zero_or_pos n with h | h
    · subst h; simp [Zem, Nat.pow_succ, Nat.pow_pos]
    rw [ZhW h, Nat.add_le_add_iff_right, ih, Nat.pow_succ, Nat.div_lt_iff_lt_mul (by omega)]
theorem lt_dl (n : Nat) : n < 10 ^ dl n := Zgw.1 (Nat.le_refl _)
theorem Zgx {k n : Nat} : k < dl n ↔ 10 ^ k ≤ n := by rw [← Nat.not_le, Zgw, Nat.not_lt]
theorem dl_ge {n : Nat} (h : 0 < n) : 10 ^ (dl n - 1) ≤ n := Zgx.1 (by rw [ZhW h]; omega)
theorem cmpI_mul {k a b : Nat} (hk : 0 < k) : cmpI (k * a) (k * b) = cmpI a b := by
  unfold cmpI;have h1 : k * a < k * b ↔ a < b := Nat.mul_lt_mul_left hk;have h2 : k * a = k * b ↔ a = b := ⟨Nat.eq_of_mul_eq_mul_left hk, fun h => by rw [h]⟩;simp only [h1, h2]
def pc (N D : Nat) : Nat × Bool × Int := (N / D, decide (N % D ≠ 0), cmpI (2 * (N % D)) D)
theorem pc_mul {k N D : Nat} (hk : 0 < k) : pc (k * N) (k * D) = pc N D := by
  unfold pc;have h1 : k * N % (k * D) = k * (N % D) := Nat.mul_mod_mul_left ..
  have h2 : (k * (N % D) ≠ 0) ↔ (N % D ≠ 0) := by
    rw [Ne, Nat.mul_eq_zero]; constructor
    · intro h e; exact h (.inr e)
    rintro h (e | e)
    · omega
    exact h e
  rw [Nat.mul_div_mul_left _ _ hk, h1, show 2 * (k * (N % D)) = k * (2 * (N % D)) by rw [Nat.mul_left_comm], cmpI_mul hk];simp only [h2]
theorem ZiT {a b c d : Nat} (hb : 0 < b) (hd : 0 < d) (h : a * d = c * b) : pc a b = pc c d := by
  rw [← pc_mul (k := d) (N := a) (D := b) hd, ← pc_mul (k := b) (N := c) (D := d) hb, Nat.mul_comm d a, h, Nat.mul_comm d b, Nat.mul_comm c b]
def tt (k : Int) : Nat := 10 ^ k.toNat
theorem ZcK (k : Int) : 0 < tt k := Nat.pow_pos (by omega)
structure Nm where
  n : Nat
  d : Nat
  e : Int
def Nm.at (x : Nm) (q : Int) : Nat × Bool × Int := pc (x.n * tt (x.e - q)) (x.d * tt (q - x.e))
def Nm.eq (x y : Nm) : Prop := x.n * tt (x.e - y.e) * y.d = y.n * tt (y.e - x.e) * x.d
theorem at_eq {x y : Nm} (hx : 0 < x.d) (hy : 0 < y.d) (h : x.eq y) (q : Int) : x.at q = y.at q := by
  unfold Nm.at
  refine ZiT (Nat.mul_pos hx (ZcK _)) (Nat.mul_pos hy (ZcK _)) ?_
  have h1 : x.n * y.d * tt (x.e - y.e) = y.n * x.d * tt (y.e - x.e) := by
    unfold Nm.eq at h;rw [Nat.mul_right_comm, h, Nat.mul_right_comm]
  have e1 : (x.e - q).toNat + (q - y.e).toNat + (y.e - x.e).toNat = (y.e - q).toNat + (q - x.e).toNat + (x.e - y.e).toNat := by omega
  have e2 : tt (x.e - q) * tt (q - y.e) * tt (y.e - x.e) = tt (y.e - q) * tt (q - x.e) * tt (x.e - y.e) := by
    unfold tt; rw [← Nat.pow_add, ← Nat.pow_add, ← Nat.pow_add, ← Nat.pow_add, e1]
  refine Nat.eq_of_mul_eq_mul_right (ZcK (y.e - x.e)) ?_
  calc x.n * tt (x.e - q) * (y.d * tt (q - y.e)) * tt (y.e - x.e)
      = x.n * y.d * (tt (x.e - q) * tt (q - y.e) * tt (y.e - x.e)) := by ac_rfl
    _ = x.n * y.d * tt (x.e - y.e) * (tt (y.e - q) * tt (q - x.e)) := by rw [e2]; ac_rfl
    _ = y.n * x.d * tt (y.e - x.e) * (tt (y.e - q) * tt (q - x.e)) := by rw [h1]
    _ = y.n * tt (y.e - q) * (x.d * tt (q - x.e)) * tt (y.e - x.e) := by ac_rfl
theorem at_div {x : Nm} (hx : 0 < x.d) (q : Int) (k : Nat) : (x.at (q + k)).1 = (x.at q).1 / 10 ^ k := by
  show x.n * tt (x.e - (q + k)) / (x.d * tt (q + k - x.e)) = x.n * tt (x.e - q) / (x.d * tt (q - x.e)) / 10 ^ k;rw [Nat.div_div_eq_div_mul]
  have h := ZiT (a := x.n * tt (x.e - (q + k))) (b := x.d * tt (q + k - x.e)) (c := x.n * tt (x.e - q)) (d := x.d * tt (q - x.e) * 10 ^ k) (Nat.mul_pos hx (ZcK _)) (Nat.mul_pos (Nat.mul_pos hx (ZcK _)) (Nat.pow_pos (by omega))) (by
    have e1 : (x.e - (q + k)).toNat + (q - x.e).toNat + k = (x.e - q).toNat + (q + k - x.e).toNat := by omega
    have e2 : tt (x.e - (q + k)) * tt (q - x.e) * 10 ^ k = tt (x.e - q) * tt (q + k - x.e) := by
      unfold tt; rw [← Nat.pow_add, ← Nat.pow_add, ← Nat.pow_add, e1]
    calc x.n * tt (x.e - (q + k)) * (x.d * tt (q - x.e) * 10 ^ k) = x.n * x.d * (tt (x.e - (q + k)) * tt (q - x.e) * 10 ^ k) := by ac_rfl
      _ = x.n * tt (x.e - q) * (x.d * tt (q + k - x.e)) := by rw [e2]; ac_rfl)
  exact congrArg Prod.fst h
def IsQ (p : Nat) (low : Int) (x : Nm) (q : Int) : Prop := low ≤ q ∧ (x.at q).1 < 10 ^ p ∧ (q = low ∨ 10 ^ (p - 1) ≤ (x.at q).1)
theorem at_mono {x : Nm} (hx : 0 < x.d) {q r : Int} (h : q ≤ r) : (x.at r).1 = (x.at q).1 / 10 ^ (r - q).toNat := by
  rw [← at_div hx, show q + ((r - q).toNat : Int) = r by omega]
theorem IsQ.no {p : Nat} {low : Int} {x : Nm} (hx : 0 < x.d) (hp : 0 < p) {q r : Int} (h1 : IsQ p low x q) (h2 : IsQ p low x r) (h : q < r) : False := by
  obtain ⟨a1, a2, _⟩ := h1;obtain ⟨_, _, b3⟩ := h2;have h3 := b3.resolve_left (by omega);rw [at_mono hx (Int.le_of_lt h), Nat.le_div_iff_mul_le (Nat.pow_pos (by omega)), ← Nat.pow_add] at h3;have h4 := Nat.pow_le_pow_right (n := 10) (by omega) (show p ≤ p - 1 + (r - q).toNat by omega);omega
theorem IsQ.uniq {p : Nat} {low : Int} {x : Nm} (hx : 0 < x.d) (hp : 0 < p) {q r : Int} (h1 : IsQ p low x q) (h2 : IsQ p low x r) : q = r := by
  rcases Int.lt_trichotomy q r with h | h | h
  · exact (h1.no hx hp h2 h).elim
  · exact h
  exact (h2.no hx hp h1 h).elim
theorem IsQ.ex {p : Nat} (hp : 0 < p) (low : Int) {x : Nm} (hx : 0 < x.d) : ∃ q, IsQ p low x q := by
  rcases Nat.lt_or_ge (x.at low).1 (10 ^ p) with h | h
  · exact ⟨low, Int.le_refl _, h, .inl rfl⟩
  have h0 : 0 < (x.at low).1 := Nat.lt_of_lt_of_le (Nat.pow_pos (by omega)) h;have h1 : p < dl (x.at low).1 := Zgx.2 h;refine ⟨low + ((dl (x.at low).1 - p : Nat) : Int), by omega, ?_, .inr ?_⟩
  · rw [at_div hx, Nat.div_lt_iff_lt_mul (Nat.pow_pos (by omega)), ← Nat.pow_add]
    exact Zgw.1 (by omega)
  rw [at_div hx, Nat.le_div_iff_mul_le (Nat.pow_pos (by omega)), ← Nat.pow_add];exact Zgx.1 (by omega)
structure Dt where
  fmt : Int
  cls : Int
  neg : Bool
  coef : List Nat
  exp : Int
  deriving DecidableEq
structure Rs where
  dt : Dt
  fl : Int
  deriving DecidableEq
def finD (f : Int) (neg : Bool) (c : Nat) (q : Int) : Dt := ⟨f, 1, neg, lim c, q⟩
def infD (f : Int) (neg : Bool) : Dt := ⟨f, 2, neg, [], 0⟩
def fP (f : Int) : Nat := if f = 6 then 7 else if f = 7 then 16 else 34
def fLo (f : Int) : Int := if f = 6 then -101 else if f = 7 then -398 else -6176
def fHi (f : Int) : Int := if f = 6 then 90 else if f = 7 then 369 else 6111
theorem ZW (f : Int) : 7 ≤ fP f ∧ fP f ≤ 34 := by unfold fP; (repeat' split) <;> omega
theorem f_le (f : Int) : fLo f ≤ -101 ∧ -6176 ≤ fLo f ∧ 90 ≤ fHi f ∧ fHi f ≤ 6111 := by unfold fLo fHi; (repeat' split) <;> omega
def dirB (dir : Int) (neg odd : Bool) (half : Int) : Bool :=
  if dir = 1 then decide (0 < half) || (decide (half = 0) && odd) else if dir = 2 then decide (0 ≤ half) else if dir = 4 then !neg else if dir = 5 then neg else false
def ovf (f : Int) (neg : Bool) (dir : Int) : Rs := if dirB dir neg true 1 then ⟨infD f neg, 20⟩ else ⟨finD f neg (10 ^ fP f - 1) (fHi f), 20⟩
def zro (f : Int) (neg : Bool) (prefer : Int) : Rs := ⟨finD f neg 0 (min (max prefer (fLo f)) (fHi f)), 0⟩
def IsE (c : Nat) (q prefer high : Int) (c' : Nat) (q' : Int) : Prop :=
  q ≤ q' ∧ c = c' * 10 ^ (q' - q).toNat ∧ (q' = q ∨ q' ≤ prefer ∧ q' ≤ high) ∧ (prefer ≤ q' ∨ high ≤ q' ∨ c' % 10 ≠ 0)
theorem IsE.no {c : Nat} {q prefer high : Int} {a b : Nat} {i j : Int} (h1 : IsE c q prefer high a i) (h2 : IsE c q prefer high b j) (h : i < j) : False := by
  obtain ⟨a1, a2, a3, a4⟩ := h1;obtain ⟨b1, b2, b3, b4⟩ := h2
  have h3 : a % 10 ≠ 0 := by omega
  apply h3
  have e : a = b * 10 ^ (j - i).toNat := by
    refine Nat.eq_of_mul_eq_mul_right (Nat.pow_pos (n := (i - q).toNat) (show 0 < 10 by omega)) ?_;rw [← a2, b2, Nat.mul_assoc, ← Nat.pow_add, show (j - i).toNat + (i - q).toNat = (j - q).toNat by omega]
  rw [e, show (j - i).toNat = ((j - i).toNat - 1) + 1 by omega, Nat.pow_succ, ← Nat.mul_assoc, Nat.mul_mod_left]
theorem IsE.uniq {c : Nat} {q prefer high : Int} {a b : Nat} {i j : Int} (h1 : IsE c q prefer high a i) (h2 : IsE c q prefer high b j) : a = b ∧ i = j := by
  rcases Int.lt_trichotomy i j with h | h | h
  · exact (h1.no h2 h).elim
  · subst h
    refine ⟨Nat.eq_of_mul_eq_mul_right (Nat.pow_pos (n := (i - q).toNat) (show 0 < 10 by omega)) ?_, rfl⟩;rw [← h1.2.1, ← h2.2.1]
  exact (h2.no h1 h).elim
theorem IsE.ex (prefer high : Int) : ∀ (k : Nat) (c : Nat) (q : Int), prefer - q ≤ k → ∃ c' q', IsE c q prefer high c' q'
  | 0, c, q, h => ⟨c, q, Int.le_refl _, by simp, .inl rfl, .inl (by omega)⟩
  | k + 1, c, q, h => by
    by_cases h1 : prefer ≤ q ∨ high ≤ q ∨ c % 10 ≠ 0
    · exact ⟨c, q, Int.le_refl _, by simp, .inl rfl, h1⟩
    obtain ⟨c', q', a1, a2, a3, a4⟩ := IsE.ex prefer high k (c / 10) (q + 1) (by omega);refine ⟨c', q', by omega, ?_, .inr (by omega), a4⟩
    have e : c = c / 10 * 10 := by omega
    rw [e, a2, Nat.mul_assoc, ← Nat.pow_succ]
    congr 2; omega
def rnd (dir : Int) (neg : Bool) (t : Nat × Bool × Int) : Nat := if t.2.1 && dirB dir neg (decide (t.1 % 2 = 1)) t.2.2 then t.1 + 1 else t.1
def inx (f : Int) (neg : Bool) (dir q : Int) (t : Nat × Bool × Int) : Rs :=
  if fHi f < (if 10 ^ fP f ≤ rnd dir neg t then q + 1 else q) then ovf f neg dir
  else ⟨finD f neg (if 10 ^ fP f ≤ rnd dir neg t then 10 ^ (fP f - 1) else rnd dir neg t) (if 10 ^ fP f ≤ rnd dir neg t then q + 1 else q), if t.2.1 then (if t.1 < 10 ^ (fP f - 1) then 24 else 16) else 0⟩
def Rd (f : Int) (neg : Bool) (dir prefer : Int) (x : Nm) (r : Rs) : Prop :=
  ∃ q, IsQ (fP f) (fLo f) x q ∧ (((x.at q).2.1 = false ∧ q ≤ fHi f ∧ ∃ c q', IsE (x.at q).1 q prefer (fHi f) c q' ∧ r = ⟨finD f neg c q', 0⟩) ∨
    (((x.at q).2.1 = true ∨ fHi f < q) ∧ r = inx f neg dir q (x.at q)))
theorem Rd.uniq {f : Int} {neg : Bool} {dir prefer : Int} {x : Nm} (hx : 0 < x.d) {r s : Rs} (h1 : Rd f neg dir prefer x r) (h2 : Rd f neg dir prefer x s) : r = s := by
  obtain ⟨q, a1, a2⟩ := h1;obtain ⟨q', b1, b2⟩ := h2;have e := a1.uniq hx (by have := ZW f; omega) b1;subst e
  rcases a2 with ⟨a3, a4, c, i, a5, a6⟩ | ⟨a3, a4⟩ <;> rcases b2 with ⟨b3, b4, c', i', b5, b6⟩ | ⟨b3, b4⟩
  · obtain ⟨e1, e2⟩ := a5.uniq b5
    subst e1 e2; rw [a6, b6]
  · rcases b3 with b3 | b3
    · rw [a3] at b3; cases b3
    omega
  · rcases a3 with a3 | a3
    · rw [a3] at b3; cases b3
    omega
  rw [a4, b4]
theorem Rd.ex (f : Int) (neg : Bool) (dir prefer : Int) {x : Nm} (hx : 0 < x.d) : ∃ r, Rd f neg dir prefer x r := by
  obtain ⟨q, h⟩ := IsQ.ex (show 0 < fP f by have := ZW f; omega) (fLo f) hx
  by_cases h1 : (x.at q).2.1 = false ∧ q ≤ fHi f
  · obtain ⟨c, i, h2⟩ := IsE.ex prefer (fHi f) (prefer - q).toNat (x.at q).1 q (by omega)
    exact ⟨_, q, h, .inl ⟨h1.1, h1.2, c, i, h2, rfl⟩⟩
  refine ⟨_, q, h, .inr ⟨?_, rfl⟩⟩
  by_cases h3 : (x.at q).2.1 = true
  · exact .inl h3
  have h4 : (x.at q).2.1 = false := by simpa using h3
  rcases Int.lt_or_le (fHi f) q with h5 | h5
  · exact .inr h5
  exact absurd ⟨h4, h5⟩ h1
noncomputable def RS (f : Int) (neg : Bool) (dir prefer : Int) (x : Nm) : Rs :=
  if x.n = 0 then zro f neg prefer else if h : 0 < x.d then Classical.choose (Rd.ex f neg dir prefer h) else zro f neg prefer
theorem Zig {f : Int} {neg : Bool} {dir prefer : Int} {x : Nm} (hn : 0 < x.n) (hx : 0 < x.d) {r : Rs} (h : Rd f neg dir prefer x r) : RS f neg dir prefer x = r := by
  unfold RS;rw [if_neg (by omega), dif_pos hx];exact Rd.uniq hx (Classical.choose_spec (Rd.ex f neg dir prefer hx)) h
theorem RS_spec {f : Int} {neg : Bool} {dir prefer : Int} {x : Nm} (hn : 0 < x.n) (hx : 0 < x.d) : Rd f neg dir prefer x (RS f neg dir prefer x) := by
  obtain ⟨r, h⟩ := Rd.ex f neg dir prefer hx;rw [Zig hn hx h]; exact h
theorem ZcF {f : Int} {neg : Bool} {dir prefer : Int} {x : Nm} (hn : x.n = 0) : RS f neg dir prefer x = zro f neg prefer := by
  unfold RS; rw [if_pos hn]
theorem Rd.alike {f : Int} {neg : Bool} {dir prefer : Int} {x y : Nm} (h : ∀ q, IsQ (fP f) (fLo f) x q → y.at q = x.at q) {r : Rs} (hr : Rd f neg dir prefer x r) : Rd f neg dir prefer y r := by
  obtain ⟨q, a1, a2⟩ := hr;refine ⟨q, ?_, ?_⟩
  · unfold IsQ at a1 ⊢
    rw [h q a1]; exact a1
  rw [h q a1]; exact a2
theorem Zjm {f : Int} {neg : Bool} {dir prefer : Int} {x y : Nm} (hx : 0 < x.n) (hy : 0 < y.n) (dx : 0 < x.d) (dy : 0 < y.d) (h : ∀ q, IsQ (fP f) (fLo f) x q → y.at q = x.at q) : RS f neg dir prefer x = RS f neg dir prefer y :=
  (Zig hy dy (Rd.alike h (RS_spec hx dx))).symm
theorem Zhb {f : Int} {neg : Bool} {dir prefer : Int} {x y : Nm} (dx : 0 < x.d) (dy : 0 < y.d) (h : x.eq y) : RS f neg dir prefer x = RS f neg dir prefer y := by
  rcases Nat.eq_zero_or_pos x.n with hx | hx
  · have hy : y.n = 0 := by
      unfold Nm.eq at h;rw [hx, Nat.zero_mul, Nat.zero_mul] at h
      rcases Nat.mul_eq_zero.1 h.symm with h | h
      · rcases Nat.mul_eq_zero.1 h with h | h
        · exact h
        have := ZcK (y.e - x.e); omega
      omega
    rw [ZcF hx, ZcF hy]
  have hy : 0 < y.n := by
    rcases Nat.eq_zero_or_pos y.n with h0 | h0
    · unfold Nm.eq at h
      rw [h0, Nat.zero_mul, Nat.zero_mul] at h;have := Nat.mul_pos (Nat.mul_pos hx (ZcK (x.e - y.e))) dy;omega
    exact h0
  exact Zjm hx hy dx dy fun q _ => (at_eq dx dy h q).symm
theorem RS_big {f : Int} {neg : Bool} {dir prefer : Int} {x : Nm} (hn : 0 < x.n) (dx : 0 < x.d) (h : 10 ^ fP f ≤ (x.at (fHi f)).1) : RS f neg dir prefer x = ovf f neg dir := by
  obtain ⟨q, a1, a2⟩ := RS_spec (f := f) (neg := neg) (dir := dir) (prefer := prefer) hn dx
  have hq : fHi f < q := by
    rcases Int.lt_or_le (fHi f) q with h1 | h1
    · exact h1
    rw [at_mono dx h1] at h;have := Nat.div_le_self (x.at q).1 (10 ^ (fHi f - q).toNat);have := a1.2.1;omega
  rcases a2 with ⟨_, h3, _⟩ | ⟨_, h3⟩
  · omega
  rw [h3]; unfold inx; rw [if_pos (by split <;> omega)]
theorem RS_tiny {f : Int} {neg : Bool} {dir prefer : Int} {x y : Nm} (hx : 0 < x.n) (hy : 0 < y.n) (dx : 0 < x.d) (dy : 0 < y.d) (h1 : x.at (fLo f) = (0, true, -1)) (h2 : y.at (fLo f) = (0, true, -1)) : RS f neg dir prefer x = RS f neg dir prefer y := by
  refine Zjm hx hy dx dy fun q hq => ?_
  have e : IsQ (fP f) (fLo f) x (fLo f) := ⟨Int.le_refl _, by rw [h1]; exact Nat.pow_pos (by omega), .inl rfl⟩;rw [hq.uniq dx (by have := ZW f; omega) e, h1, h2]
theorem Ziz {N D : Nat} (hN : 0 < N) (h : 2 * N < D) : pc N D = (0, true, -1) := by
  unfold pc;rw [Nat.div_eq_of_lt (by omega), Nat.mod_eq_of_lt (by omega)];unfold cmpI; rw [if_pos h]; simp; omega
def stk (C : Nat) (e : Int) : Nm := ⟨10 * C + 1, 1, e - 1⟩
theorem Zma {C k : Nat} : pc (10 * C + 1) (10 ^ (k + 2)) = (C / 10 ^ (k + 1), true, if cmpI (2 * (C % 10 ^ (k + 1))) (10 ^ (k + 1)) = 0 then 1 else cmpI (2 * (C % 10 ^ (k + 1))) (10 ^ (k + 1))) := by
  unfold pc
  have hT : 10 ^ (k + 2) = 10 * 10 ^ (k + 1) := by rw [Nat.pow_succ 10 (k + 1), Nat.mul_comm]
  have hE : 10 ^ (k + 1) = 2 * (5 * 10 ^ k) := by rw [Nat.pow_succ]; omega
  have h1 : (10 * C + 1) / 10 ^ (k + 2) = C / 10 ^ (k + 1) := by
    rw [hT, ← Nat.div_div_eq_div_mul]; congr 1; omega
  have h2 : (10 * C + 1) % 10 ^ (k + 2) = 10 * (C % 10 ^ (k + 1)) + 1 := by
    rw [hT, Nat.mod_mul, show (10 * C + 1) / 10 = C by omega]; omega
  rw [h1, h2, hT];generalize hm : C % 10 ^ (k + 1) = m;rw [hE];generalize 5 * 10 ^ k = z;unfold cmpI
  have : decide (10 * m + 1 ≠ 0) = true := by simp
  rw [this]
  congr 2
  (repeat' split) <;> omega
theorem at_stk {x : Nm} (hx : 0 < x.d) {e q : Int} {C : Nat} (h : (x.at e).1 = C) (hr : (x.at e).2.1 = true) (hq : e < q) : x.at q = (stk C e).at q := by
  have e1 : (stk C e).at q = pc (10 * C + 1) (10 ^ ((q - e).toNat - 1 + 2)) := by
    unfold stk Nm.at
    show pc ((10 * C + 1) * tt (e - 1 - q)) (1 * tt (q - (e - 1))) = _
    have : tt (e - 1 - q) = 1 := by unfold tt; rw [show (e - 1 - q).toNat = 0 by omega]
    rw [this, Nat.mul_one, Nat.one_mul];unfold tt; rw [show (q - (e - 1)).toNat = (q - e).toNat - 1 + 2 by omega]
  have e2 : x.at q = pc (x.n * tt (x.e - e)) (x.d * tt (e - x.e) * 10 ^ (q - e).toNat) := by
    unfold Nm.at
    refine ZiT (Nat.mul_pos hx (ZcK _)) (Nat.mul_pos (Nat.mul_pos hx (ZcK _)) (Nat.pow_pos (by omega))) ?_
    have e3 : tt (x.e - q) * tt (e - x.e) * 10 ^ (q - e).toNat = tt (x.e - e) * tt (q - x.e) := by
      unfold tt; rw [← Nat.pow_add, ← Nat.pow_add, ← Nat.pow_add]; congr 1; omega
    calc x.n * tt (x.e - q) * (x.d * tt (e - x.e) * 10 ^ (q - e).toNat) = x.n * x.d * (tt (x.e - q) * tt (e - x.e) * 10 ^ (q - e).toNat) := by ac_rfl
      _ = x.n * tt (x.e - e) * (x.d * tt (q - x.e)) := by rw [e3]; ac_rfl
  rw [e1, e2, Zma];unfold Nm.at at h hr;have hD : 0 < x.d * tt (e - x.e) := Nat.mul_pos hx (ZcK _);generalize x.n * tt (x.e - e) = N at h hr ⊢;generalize x.d * tt (e - x.e) = D at h hr hD ⊢;obtain ⟨k, hk⟩ : ∃ k, (q - e).toNat = k + 1 := ⟨(q - e).toNat - 1, by omega⟩;rw [hk, show k + 1 - 1 + 1 = k + 1 by omega]
  have hr' : 0 < N % D := by
    have : decide (N % D ≠ 0) = true := hr;have := Zh this; omega
  have hr2 : N % D < D := Nat.mod_lt _ hD;have h' : N / D = C := h;unfold pc
  have h1 : N / (D * 10 ^ (k + 1)) = C / 10 ^ (k + 1) := by rw [← Nat.div_div_eq_div_mul, h']
  have h2 : N % (D * 10 ^ (k + 1)) = N % D + D * (C % 10 ^ (k + 1)) := by rw [Nat.mod_mul, h']
  have hE : 10 ^ (k + 1) = 2 * (5 * 10 ^ k) := by rw [Nat.pow_succ]; omega
  rw [h1, h2]
  have h3 : decide (N % D + D * (C % 10 ^ (k + 1)) ≠ 0) = true := by simp; omega
  rw [h3]
  congr 2
  rw [hE];generalize 5 * 10 ^ k = z;generalize C % (2 * z) = m;generalize N % D = s at hr' hr2;unfold cmpI
  rcases Nat.lt_trichotomy m z with c | c | c
  · have h5 : D * m + D ≤ D * z := by rw [← Nat.mul_succ]; exact Nat.mul_le_mul_left _ c
    have h6 : D * (2 * z) = 2 * (D * z) := by rw [Nat.mul_left_comm]
    rw [h6]
    (repeat' split) <;> omega
  · subst c
    have h6 : D * (2 * m) = 2 * (D * m) := by rw [Nat.mul_left_comm]
    rw [h6]
    (repeat' split) <;> omega
  have h5 : D * z + D ≤ D * m := by rw [← Nat.mul_succ]; exact Nat.mul_le_mul_left _ c
  have h6 : D * (2 * z) = 2 * (D * z) := by rw [Nat.mul_left_comm]
  rw [h6]
  (repeat' split) <;> omega
theorem Zjn {f : Int} {neg : Bool} {dir prefer : Int} {x : Nm} (hx : 0 < x.n) (dx : 0 < x.d) {e : Int} {C : Nat} (h : (x.at e).1 = C) (hr : (x.at e).2.1 = true) (hC : 10 ^ fP f ≤ C) : RS f neg dir prefer x = RS f neg dir prefer (stk C e) := by
  refine Zjm hx (by show 0 < 10 * C + 1; omega) dx (by show 0 < 1; omega) fun q hq => ?_
  rcases Int.lt_or_le e q with h1 | h1
  · exact (at_stk dx h hr h1).symm
  exfalso
  have h2 := hq.2.1;rw [at_mono dx h1] at h;have := Nat.div_le_self (x.at q).1 (10 ^ (e - q).toNat);omega
def nmOf (C : Nat) (e : Int) (more : Bool) : Nm := bif more then stk C e else ⟨C, 1, e⟩
theorem nm_n {C : Nat} {e : Int} {more : Bool} (h : 0 < C) : 0 < (nmOf C e more).n := by
  cases more with
  | false => exact h
  | true => exact Nat.succ_pos _
theorem nm_d (C : Nat) (e : Int) (more : Bool) : 0 < (nmOf C e more).d := by cases more <;> exact Nat.one_pos
theorem pc_one (N : Nat) : pc N 1 = (N, false, -1) := by unfold pc; rw [Nat.div_one, Nat.mod_one]; rfl
theorem nm_up {C : Nat} {e q : Int} (h : q ≤ e) : (nmOf C e false).at q = (C * 10 ^ (e - q).toNat, false, -1) := by
  show pc (C * tt (e - q)) (1 * tt (q - e)) = _
  have : tt (q - e) = 1 := by unfold tt; rw [show (q - e).toNat = 0 by omega]
  rw [this, pc_one]; rfl
theorem nm_down {C : Nat} {e q : Int} (h : e ≤ q) : (nmOf C e false).at q = pc C (10 ^ (q - e).toNat) := by
  show pc (C * tt (e - q)) (1 * tt (q - e)) = _
  have : tt (e - q) = 1 := by unfold tt; rw [show (e - q).toNat = 0 by omega]
  rw [this, Nat.mul_one, Nat.one_mul]; rfl
def pcM (C T : Nat) (more : Bool) : Nat × Bool × Int := (C / T, decide (C % T ≠ 0) || more, if cmpI (2 * (C % T)) T = 0 ∧ more = true then 1 else cmpI (2 * (C % T)) T)
theorem ZfR {C : Nat} {e q : Int} {more : Bool} (h : e < q) : (nmOf C e more).at q = pcM C (10 ^ (q - e).toNat) more := by
  cases more with
  | false =>
    rw [nm_down (Int.le_of_lt h)]; unfold pc pcM;rw [Bool.or_false, if_neg (by simp)]
  | true =>
    show pc ((10 * C + 1) * tt (e - 1 - q)) (1 * tt (q - (e - 1))) = _
    have : tt (e - 1 - q) = 1 := by unfold tt; rw [show (e - 1 - q).toNat = 0 by omega]
    rw [this, Nat.mul_one, Nat.one_mul];unfold tt;obtain ⟨k, hk⟩ : ∃ k, (q - e).toNat = k + 1 := ⟨(q - e).toNat - 1, by omega⟩;rw [show (q - (e - 1)).toNat = k + 2 by omega, Zma, hk];unfold pcM;rw [Bool.or_true]; simp only [and_true]
theorem pcM_far {C k : Nat} (h : dl C + 1 < k) (hC : 0 < C) (more : Bool) : pcM C (10 ^ k) more = (0, true, -1) := by
  have h1 := lt_dl C
  have h2 : 2 * C < 10 ^ k := by
    have := Nat.pow_le_pow_right (n := 10) (by omega) (show dl C + 1 ≤ k by omega);rw [Nat.pow_succ] at this; omega
  unfold pcM;rw [Nat.div_eq_of_lt (by omega), Nat.mod_eq_of_lt (by omega)]
  have : cmpI (2 * C) (10 ^ k) = -1 := by unfold cmpI; rw [if_pos h2]
  rw [this, if_neg (by omega)]
  have : decide (C ≠ 0) = true := by simp; omega
  rw [this, Bool.true_or]
def rQ (f : Int) (C : Nat) (e : Int) : Int := max (fLo f) (e + dl C - fP f)
theorem dl_pos' {n : Nat} (h : 0 < n) : 0 < dl n := by rw [ZhW h]; omega
theorem Zhc {f : Int} {C : Nat} {e : Int} (h : 10 ^ fP f ≤ C) : e < rQ f C e := by
  have := Zgx.2 h;unfold rQ; omega
theorem nm_cf {C : Nat} {e q : Int} {more : Bool} (h : more = true → e < q) : ((nmOf C e more).at q).1 = C * tt (e - q) / tt (q - e) := by
  rcases Int.lt_or_le e q with h1 | h1
  · rw [ZfR h1]
    have : tt (e - q) = 1 := by unfold tt; rw [show (e - q).toNat = 0 by omega]
    rw [this, Nat.mul_one]; rfl
  have : more = false := by cases more with
    | false => rfl
    | true => have := h rfl; omega
  subst this;rw [nm_up h1]
  have : tt (q - e) = 1 := by unfold tt; rw [show (q - e).toNat = 0 by omega]
  rw [this, Nat.div_one]; rfl
theorem cf_lt {C k : Nat} {e q : Int} (h : e + dl C ≤ q + k) : C * tt (e - q) / tt (q - e) < 10 ^ k := by
  rw [Nat.div_lt_iff_lt_mul (ZcK _)];unfold tt;rw [← Nat.pow_add]
  calc C * 10 ^ (e - q).toNat < 10 ^ dl C * 10 ^ (e - q).toNat := Nat.mul_lt_mul_of_pos_right (lt_dl C) (Nat.pow_pos (by omega))
    _ = 10 ^ (dl C + (e - q).toNat) := (Nat.pow_add ..).symm
    _ ≤ 10 ^ (k + (q - e).toNat) := Nat.pow_le_pow_right (by omega) (by omega)
theorem cf_ge {C k : Nat} {e q : Int} (hC : 0 < C) (h : q + k < e + dl C) : 10 ^ k ≤ C * tt (e - q) / tt (q - e) := by
  rw [Nat.le_div_iff_mul_le (ZcK _)];unfold tt;rw [← Nat.pow_add];have := dl_pos' hC
  calc 10 ^ (k + (q - e).toNat) ≤ 10 ^ (dl C - 1 + (e - q).toNat) := Nat.pow_le_pow_right (by omega) (by omega)
    _ = 10 ^ (dl C - 1) * 10 ^ (e - q).toNat := Nat.pow_add ..
    _ ≤ C * 10 ^ (e - q).toNat := Nat.mul_le_mul_right _ (dl_ge hC)
theorem rQ_is {f : Int} {C : Nat} {e : Int} {more : Bool} (hC : 0 < C) (h : more = true → 10 ^ fP f ≤ C) : IsQ (fP f) (fLo f) (nmOf C e more) (rQ f C e) := by
  have hp := ZW f;unfold IsQ;rw [nm_cf (fun hm => Zhc (h hm))];refine ⟨by unfold rQ; omega, cf_lt (by unfold rQ; omega), ?_⟩
  by_cases h1 : rQ f C e = fLo f
  · exact .inl h1
  exact .inr (cf_ge hC (by unfold rQ at h1 ⊢; omega))
theorem rQ_under {f : Int} {C : Nat} {e : Int} {more : Bool} (hC : 0 < C) (h : more = true → 10 ^ fP f ≤ C) : e + dl C ≤ fP f - 1 + fLo f ↔ ((nmOf C e more).at (rQ f C e)).1 < 10 ^ (fP f - 1) := by
  have hp := ZW f;rw [nm_cf (fun hm => Zhc (h hm))]
  constructor
  · intro h1; exact cf_lt (C := C) (e := e) (k := fP f - 1) (q := rQ f C e) (by unfold rQ; omega)
  intro h1
  rcases Int.lt_or_le (fP f - 1 + fLo f) (e + dl C) with h2 | h2
  · have := cf_ge (e := e) (k := fP f - 1) (q := rQ f C e) hC (by unfold rQ; omega)
    omega
  exact h2
def IsZ (C z : Nat) : Prop := C % 10 ^ z = 0 ∧ C % 10 ^ (z + 1) ≠ 0
theorem IsZ.dvd {C z k : Nat} (h : IsZ C z) : C % 10 ^ k = 0 ↔ k ≤ z := by
  constructor
  · intro h1
    rcases Nat.lt_or_ge z k with h2 | h2
    · exfalso
      apply h.2;obtain ⟨j, rfl⟩ : ∃ j, k = z + 1 + j := ⟨k - (z + 1), by omega⟩;rw [Nat.pow_add] at h1;have := Nat.mod_mul_right_mod C (10 ^ (z + 1)) (10 ^ j);rw [h1] at this; simpa using this.symm
    exact h2
  intro h1;obtain ⟨j, rfl⟩ : ∃ j, z = k + j := ⟨z - k, by omega⟩;have h2 := h.1;rw [Nat.pow_add] at h2;have := Nat.mod_mul_right_mod C (10 ^ k) (10 ^ j);rw [h2] at this; simpa using this.symm
theorem Zjo {C z : Nat} {e q : Int} (hz : IsZ C z) : ((nmOf C e false).at q).2.1 = false ↔ q ≤ e + z := by
  rcases Int.lt_or_le q e with h | h
  · rw [nm_up (Int.le_of_lt h)]
    simp; omega
  rw [nm_down h];show decide (C % 10 ^ (q - e).toNat ≠ 0) = false ↔ _;rw [decide_eq_false_iff_not, Decidable.not_not, hz.dvd]; omega
def rE (f : Int) (C : Nat) (e prefer : Int) (z : Nat) : Int := min (max prefer (rQ f C e)) (min (fHi f) (e + z))
theorem exact_mul {C z : Nat} {e q r : Int} (hz : IsZ C z) (hr : r ≤ e + z) (hq : q ≤ r) : ((nmOf C e false).at q).1 = ((nmOf C e false).at r).1 * 10 ^ (r - q).toNat := by
  rw [nm_cf (by simp), nm_cf (by simp)]
  have e1 : C * tt (e - q) / tt (q - e) * tt (q - e) = C * tt (e - q) := by
    refine Nat.div_mul_cancel (Nat.dvd_of_mod_eq_zero ?_)
    rcases Int.lt_or_le q e with h | h
    · have : tt (q - e) = 1 := by unfold tt; rw [show (q - e).toNat = 0 by omega]
      rw [this, Nat.mod_one]
    have : tt (e - q) = 1 := by unfold tt; rw [show (e - q).toNat = 0 by omega]
    rw [this, Nat.mul_one]; exact hz.dvd.2 (by omega)
  have e2 : C * tt (e - r) / tt (r - e) * tt (r - e) = C * tt (e - r) := by
    refine Nat.div_mul_cancel (Nat.dvd_of_mod_eq_zero ?_)
    rcases Int.lt_or_le r e with h | h
    · have : tt (r - e) = 1 := by unfold tt; rw [show (r - e).toNat = 0 by omega]
      rw [this, Nat.mod_one]
    have : tt (e - r) = 1 := by unfold tt; rw [show (e - r).toNat = 0 by omega]
    rw [this, Nat.mul_one]; exact hz.dvd.2 (by omega)
  generalize C * tt (e - q) / tt (q - e) = X at e1 ⊢;generalize C * tt (e - r) / tt (r - e) = Y at e2 ⊢;refine Nat.eq_of_mul_eq_mul_right (ZcK (q - e)) (Nat.eq_of_mul_eq_mul_right (ZcK (r - e)) ?_);rw [e1]
  have e3 : tt (e - q) * tt (r - e) = tt (e - r) * 10 ^ (r - q).toNat * tt (q - e) := by
    unfold tt; rw [← Nat.pow_add, ← Nat.pow_add, ← Nat.pow_add]; congr 1; omega
  calc C * tt (e - q) * tt (r - e) = C * tt (e - r) * (10 ^ (r - q).toNat * tt (q - e)) := by rw [Nat.mul_assoc, e3]; ac_rfl
    _ = Y * 10 ^ (r - q).toNat * tt (q - e) * tt (r - e) := by rw [← e2]; ac_rfl
theorem rd_exact {f : Int} {neg : Bool} {dir prefer : Int} {C z : Nat} {e : Int} (hC : 0 < C) (hz : IsZ C z) (h : rQ f C e ≤ min (fHi f) (e + z)) :
    RS f neg dir prefer (nmOf C e false) = ⟨finD f neg ((nmOf C e false).at (rE f C e prefer z)).1 (rE f C e prefer z), 0⟩ := by
  refine Zig hC Nat.one_pos ⟨_, rQ_is (more := false) hC (by simp), .inl ⟨(Zjo hz).2 (by omega), by omega, _, _, ⟨by unfold rE; omega, exact_mul hz (by unfold rE; omega) (by unfold rE; omega), by unfold rE; omega, ?_⟩, rfl⟩⟩
  by_cases h1 : prefer ≤ rE f C e prefer z ∨ fHi f ≤ rE f C e prefer z
  · rcases h1 with h1 | h1
    · exact .inl h1
    exact .inr (.inl h1)
  have h2 : rE f C e prefer z = e + z := by unfold rE at h1 ⊢; omega
  refine .inr (.inr ?_);rw [h2, nm_down (by omega), show (e + (z : Int) - e).toNat = z by omega];show C / 10 ^ z % 10 ≠ 0;intro h3;apply hz.2;rw [Nat.pow_succ, Nat.mod_mul, hz.1, h3, Nat.mul_zero]
theorem rd_inx {f : Int} {neg : Bool} {dir prefer : Int} {C : Nat} {e : Int} {more : Bool} (hC : 0 < C) (hm : more = true → 10 ^ fP f ≤ C) (h : more = true ∨ ∃ z, IsZ C z ∧ min (fHi f) (e + z) < rQ f C e) :
    RS f neg dir prefer (nmOf C e more) = inx f neg dir (rQ f C e) ((nmOf C e more).at (rQ f C e)) := by
  refine Zig (nm_n hC) (nm_d ..) ⟨_, rQ_is hC hm, .inr ⟨?_, rfl⟩⟩
  rcases h with h | ⟨z, h1, h2⟩
  · subst h
    left; rw [ZfR (Zhc (hm rfl))]; unfold pcM; exact Bool.or_true _
  cases more with
  | true => left; rw [ZfR (Zhc (hm rfl))]; unfold pcM; exact Bool.or_true _
  | false =>
    rcases Int.lt_or_le (fHi f) (rQ f C e) with h3 | h3
    · exact .inr h3
    left
    have h4 : ¬ ((nmOf C e false).at (rQ f C e)).2.1 = false := by rw [Zjo h1]; omega
    simpa using h4
theorem fin_big {f : Int} {neg : Bool} {dir prefer : Int} {n d : Nat} {e : Int} (hn : 0 < n) (hd : 0 < d) (hd2 : d < 10 ^ (2 * fP f)) (he : fHi f + 3 * fP f ≤ e) : RS f neg dir prefer ⟨n, d, e⟩ = ovf f neg dir := by
  refine RS_big hn hd ?_;show 10 ^ fP f ≤ n * tt (e - fHi f) / (d * tt (fHi f - e))
  have : tt (fHi f - e) = 1 := by unfold tt; rw [show (fHi f - e).toNat = 0 by omega]
  rw [this, Nat.mul_one, Nat.le_div_iff_mul_le hd];unfold tt
  calc 10 ^ fP f * d ≤ 10 ^ fP f * 10 ^ (2 * fP f) := Nat.mul_le_mul_left _ (Nat.le_of_lt hd2)
    _ = 10 ^ (3 * fP f) := by rw [← Nat.pow_add]; congr 1; omega
    _ ≤ 10 ^ (e - fHi f).toNat := Nat.pow_le_pow_right (by omega) (by omega)
    _ ≤ n * 10 ^ (e - fHi f).toNat := Nat.le_mul_of_pos_left _ hn
theorem fin_tiny {f : Int} {n d : Nat} {e : Int} (hn : 0 < n) (hd : 0 < d) (h : n < 10 ^ (fLo f - e).toNat) (he : e < fLo f - 1) : (Nm.mk (n) d (e - 1)).at (fLo f) = (0, true, -1) := by
  show pc (n * tt (e - 1 - fLo f)) (d * tt (fLo f - (e - 1))) = _
  have : tt (e - 1 - fLo f) = 1 := by unfold tt; rw [show (e - 1 - fLo f).toNat = 0 by omega]
  rw [this, Nat.mul_one];refine Ziz hn ?_;unfold tt;rw [show (fLo f - (e - 1)).toNat = (fLo f - e).toNat + 1 by omega, Nat.pow_succ];have := Nat.le_mul_of_pos_left (10 ^ (fLo f - e).toNat * 10) hd;omega
theorem fin_near {f : Int} {neg : Bool} {dir prefer : Int} {n d : Nat} {e : Int} (hn : 0 < n) (hd : 0 < d) (hn2 : n < 10 ^ (8 * fP f)) (hd2 : d < 10 ^ (2 * fP f)) :
    RS f neg dir prefer ⟨n, d, e⟩ = if fHi f + 3 * fP f < e then RS f neg dir prefer ⟨n, d, fHi f + 3 * fP f⟩ else if e < fLo f - 10 * fP f then RS f neg dir prefer ⟨1, 1, fLo f - 2 * fP f⟩ else RS f neg dir prefer ⟨n, d, e⟩ := by
  have hp := ZW f
  split
  · rw [fin_big hn hd hd2 (by omega), fin_big hn hd hd2 (by omega)]
  split
  · have h1 := fin_tiny (f := f) (e := e + 1) hn hd (Nat.lt_of_lt_of_le hn2 (Nat.pow_le_pow_right (by omega) (by omega))) (by omega)
    rw [show e + 1 - 1 = e by omega] at h1;have h2 := fin_tiny (f := f) (n := 1) (d := 1) (e := fLo f - 2 * fP f + 1) (by omega) (by omega) (Nat.lt_of_lt_of_le (show 1 < 10 ^ 1 by omega) (Nat.pow_le_pow_right (by omega) (by omega))) (by omega);rw [show fLo f - 2 * (fP f : Int) + 1 - 1 = fLo f - 2 * fP f by omega] at h2;exact RS_tiny hn Nat.one_pos hd Nat.one_pos h1 h2
  rfl
theorem Zng {A K b m j : Nat} (hK : K = 10 ^ (j + m)) (hb : 0 < b) (hb2 : b < 10 ^ m) : (pc (A * K + b) (10 ^ m)).1 = A * 10 ^ j ∧ (pc (A * K + b) (10 ^ m)).2.1 = true := by
  subst hK;unfold pc
  have e : A * 10 ^ (j + m) + b = b + A * 10 ^ j * 10 ^ m := by rw [Nat.pow_add, Nat.mul_assoc, Nat.add_comm]
  rw [e]
  constructor
  · show (b + A * 10 ^ j * 10 ^ m) / 10 ^ m = _
    rw [Nat.add_mul_div_right _ _ (Nat.pow_pos (by omega)), Nat.div_eq_of_lt hb2, Nat.zero_add]
  show decide ((b + A * 10 ^ j * 10 ^ m) % 10 ^ m ≠ 0) = true;rw [Nat.add_mul_mod_self_right, Nat.mod_eq_of_lt hb2]; simp; omega
theorem ZmN {A K b m j : Nat} (hK : K = 10 ^ (j + m)) (hA : 0 < A) (hb : 0 < b) (hb2 : b < 10 ^ m) : (pc (A * K - b) (10 ^ m)).1 = A * 10 ^ j - 1 ∧ (pc (A * K - b) (10 ^ m)).2.1 = true := by
  subst hK;unfold pc;have h1 : 1 ≤ A * 10 ^ j := Nat.mul_pos hA (Nat.pow_pos (by omega))
  have e : A * 10 ^ (j + m) - b = (10 ^ m - b) + (A * 10 ^ j - 1) * 10 ^ m := by
    rw [Nat.pow_add, ← Nat.mul_assoc, Nat.sub_mul, Nat.one_mul];have : 10 ^ m ≤ A * 10 ^ j * 10 ^ m := Nat.le_mul_of_pos_left _ h1;omega
  rw [e]
  constructor
  · show (10 ^ m - b + (A * 10 ^ j - 1) * 10 ^ m) / 10 ^ m = _
    rw [Nat.add_mul_div_right _ _ (Nat.pow_pos (by omega)), Nat.div_eq_of_lt (by omega), Nat.zero_add]
  show decide ((10 ^ m - b + (A * 10 ^ j - 1) * 10 ^ m) % 10 ^ m ≠ 0) = true;rw [Nat.add_mul_mod_self_right, Nat.mod_eq_of_lt (by omega)]; simp; omega
def farN (A b k : Nat) (opp : Bool) : Nat := bif opp then A * 10 ^ k - b else A * 10 ^ k + b
theorem RS_far {f : Int} {neg opp : Bool} {dir prefer : Int} {A b k : Nat} {ex : Int} (hA : 0 < A) (hb : 0 < b) (hk : 4 * fP f < k) (hb2 : b < 10 ^ (k - 4 * fP f)) :
    RS f neg dir prefer ⟨farN A b k opp, 1, ex - k⟩ = RS f neg dir prefer (stk (bif opp then A * 10 ^ (4 * fP f) - 1 else A * 10 ^ (4 * fP f)) (ex - 4 * fP f)) := by
  have hp := ZW f;have hT : 10 ^ (fP f + 1) ≤ A * 10 ^ (4 * fP f) := Nat.le_trans (Nat.pow_le_pow_right (by omega) (by omega)) (Nat.le_mul_of_pos_left _ hA);rw [Nat.pow_succ] at hT;have hpos : 1 ≤ 10 ^ fP f := Nat.pow_pos (by omega);have hbk : b < A * 10 ^ k := Nat.lt_of_lt_of_le hb2 (Nat.le_trans (Nat.pow_le_pow_right (by omega) (by omega)) (Nat.le_mul_of_pos_left _ hA))
  have hat : (Nm.mk (farN A b k opp) 1 (ex - k)).at (ex - 4 * fP f) = pc (farN A b k opp) (10 ^ (k - 4 * fP f)) := by
    show pc (_ * tt (ex - k - (ex - 4 * fP f))) (1 * tt (ex - 4 * fP f - (ex - k))) = _
    have : tt (ex - k - (ex - 4 * fP f)) = 1 := by unfold tt; rw [show (ex - (k : Int) - (ex - 4 * fP f)).toNat = 0 by omega]
    rw [this, Nat.mul_one, Nat.one_mul];unfold tt; rw [show (ex - 4 * (fP f : Int) - (ex - k)).toNat = k - 4 * fP f by omega]
  have hK : 10 ^ k = 10 ^ (4 * fP f + (k - 4 * fP f)) := by congr 1; omega
  cases opp with
  | false =>
    have h := Zng (A := A) hK hb hb2;exact Zjn (by show 0 < A * 10 ^ k + b; omega) Nat.one_pos (by rw [hat]; exact h.1) (by rw [hat]; exact h.2) (by show 10 ^ fP f ≤ A * 10 ^ (4 * fP f); omega)
  | true =>
    have h := ZmN (A := A) hK hA hb hb2;exact Zjn (by show 0 < A * 10 ^ k - b; omega) Nat.one_pos (by rw [hat]; exact h.1) (by rw [hat]; exact h.2) (by show 10 ^ fP f ≤ A * 10 ^ (4 * fP f) - 1; omega)
theorem RS_far' {f : Int} {neg opp : Bool} {dir prefer : Int} {A : Nat} {ex : Int} (hA : 0 < A) :
    RS f neg dir prefer (nmOf (bif opp then A * 10 ^ 200 - 1 else A * 10 ^ 200) (ex - 200) true) = RS f neg dir prefer (stk (bif opp then A * 10 ^ (4 * fP f) - 1 else A * 10 ^ (4 * fP f)) (ex - 4 * fP f)) := by
  have hp := ZW f;have hT : 10 ^ (fP f + 1) ≤ A * 10 ^ (4 * fP f) := Nat.le_trans (Nat.pow_le_pow_right (by omega) (by omega)) (Nat.le_mul_of_pos_left _ hA);rw [Nat.pow_succ] at hT;have hpos : 1 ≤ 10 ^ fP f := Nat.pow_pos (by omega);refine Zjn (Nat.succ_pos _) (nm_d ..) ?_ ?_ (by cases opp <;> simp only [cond_true, cond_false] <;> omega)
  · rw [ZfR (by omega), show (ex - 4 * (fP f : Int) - (ex - 200)).toNat = 200 - 4 * fP f by omega]
    have e : (10 : Nat) ^ 200 = 10 ^ (4 * fP f) * 10 ^ (200 - 4 * fP f) := by rw [← Nat.pow_add]; congr 1; omega
    show (bif opp then A * 10 ^ 200 - 1 else A * 10 ^ 200) / 10 ^ (200 - 4 * fP f) = _;rw [e, ← Nat.mul_assoc];have hm : 1 < 10 ^ (200 - 4 * fP f) := Nat.one_lt_pow (by omega) (by omega);generalize A * 10 ^ (4 * fP f) = a at hT ⊢;generalize 10 ^ (200 - 4 * fP f) = m at hm ⊢
    cases opp with
    | false => exact Nat.mul_div_cancel _ (by omega)
    | true =>
      show (a * m - 1) / m = a - 1
      have : a * m - 1 = (m - 1) + (a - 1) * m := by
        rw [Nat.sub_mul, Nat.one_mul];have : m ≤ a * m := Nat.le_mul_of_pos_left _ (by omega);omega
      rw [this, Nat.add_mul_div_right _ _ (by omega), Nat.div_eq_of_lt (by omega), Nat.zero_add]
  rw [ZfR (by omega)]; unfold pcM; exact Bool.or_true _
theorem RS_quo {f : Int} {neg : Bool} {dir prefer : Int} {a b : Nat} {e : Int} (ha : 0 < a) (hb : 0 < b) (hb2 : b < 10 ^ 40) :
    RS f neg dir prefer ⟨a, b, e⟩ = RS f neg dir prefer (nmOf (a * 10 ^ 80 / b) (e - 80) (decide (a * 10 ^ 80 % b ≠ 0))) := by
  have hp := ZW f
  have hat : (Nm.mk a b e).at (e - 80) = pc (a * 10 ^ 80) b := by
    show pc (a * tt (e - (e - 80))) (b * tt (e - 80 - e)) = _
    have h1 : tt (e - 80 - e) = 1 := by unfold tt; rw [show (e - 80 - e).toNat = 0 by omega]
    have h2 : tt (e - (e - 80)) = 10 ^ 80 := by unfold tt; rw [show (e - (e - 80)).toNat = 80 by omega]
    rw [h1, h2, Nat.mul_one]
  by_cases h : a * 10 ^ 80 % b = 0
  · have : decide (a * 10 ^ 80 % b ≠ 0) = false := by simp [h]
    rw [this];refine Zhb hb Nat.one_pos ?_;show a * tt (e - (e - 80)) * 1 = a * 10 ^ 80 / b * tt (e - 80 - e) * b
    have h1 : tt (e - 80 - e) = 1 := by unfold tt; rw [show (e - 80 - e).toNat = 0 by omega]
    have h2 : tt (e - (e - 80)) = 10 ^ 80 := by unfold tt; rw [show (e - (e - 80)).toNat = 80 by omega]
    rw [h1, h2, Nat.mul_one, Nat.mul_one, Nat.div_mul_cancel (Nat.dvd_of_mod_eq_zero h)]
  have : decide (a * 10 ^ 80 % b ≠ 0) = true := by simp [h]
  rw [this];refine Zjn ha hb (by rw [hat]; rfl) (by rw [hat]; exact this) ?_;rw [Nat.le_div_iff_mul_le hb]
  calc 10 ^ fP f * b ≤ 10 ^ 40 * 10 ^ 40 := Nat.mul_le_mul (Nat.pow_le_pow_right (by omega) (by omega)) (Nat.le_of_lt hb2)
    _ = 1 * 10 ^ 80 := (Nat.pow_add 10 40 40).symm.trans (Nat.one_mul _).symm
    _ ≤ a * 10 ^ 80 := Nat.mul_le_mul_right _ ha
def IsR (a s : Nat) : Prop := s * s ≤ a ∧ a < (s + 1) * (s + 1)
theorem IsR.le {a s t : Nat} (h : IsR a s) (ht : t * t ≤ a) : t ≤ s := by
  rcases Nat.lt_or_ge s t with h1 | h1
  · exfalso
    have := Nat.mul_le_mul (show s + 1 ≤ t from h1) (show s + 1 ≤ t from h1);have := h.2; omega
  exact h1
theorem IsR.uniq {a s t : Nat} (h : IsR a s) (h2 : IsR a t) : s = t := Nat.le_antisymm (h2.le h.1) (h.le h2.1)
theorem IsR.shift {a s t m : Nat} (hs : IsR a s) (ht : IsR (a * (10 ^ m * 10 ^ m)) t) : t / 10 ^ m = s := by
  have hm : 0 < 10 ^ m := Nat.pow_pos (by omega);refine Nat.le_antisymm ?_ ?_
  · refine hs.le ?_
    have h1 : t / 10 ^ m * 10 ^ m ≤ t := Nat.div_mul_le_self _ _;have h2 := Nat.mul_le_mul h1 h1;have h3 := ht.1
    have h4 : t / 10 ^ m * 10 ^ m * (t / 10 ^ m * 10 ^ m) = t / 10 ^ m * (t / 10 ^ m) * (10 ^ m * 10 ^ m) := by ac_rfl
    exact Nat.le_of_mul_le_mul_right (by omega : t / 10 ^ m * (t / 10 ^ m) * (10 ^ m * 10 ^ m) ≤ a * (10 ^ m * 10 ^ m)) (Nat.mul_pos hm hm)
  rw [Nat.le_div_iff_mul_le hm];refine ht.le ?_
  have : s * 10 ^ m * (s * 10 ^ m) = s * s * (10 ^ m * 10 ^ m) := by ac_rfl
  rw [this]; exact Nat.mul_le_mul_right _ hs.1
theorem RS_root {f : Int} {neg : Bool} {dir prefer : Int} {a s t m : Nat} {e : Int} (ha : 10 ^ (2 * fP f) ≤ a) (hs : IsR a s) (ht : IsR (a * (10 ^ m * 10 ^ m)) t) :
    RS f neg dir prefer (nmOf s e (decide (a ≠ s * s))) = RS f neg dir prefer (nmOf t (e - m) (decide (a * (10 ^ m * 10 ^ m) ≠ t * t))) := by
  have hm : 0 < 10 ^ m := Nat.pow_pos (by omega);have hd := hs.shift ht;have hsp : 10 ^ fP f ≤ s := hs.le (by rw [← Nat.pow_add, show fP f + fP f = 2 * fP f by omega]; exact ha);have hpp : 0 < 10 ^ fP f := Nat.pow_pos (by omega)
  by_cases h : a = s * s
  · have e1 : t = s * 10 ^ m := ht.uniq ⟨by rw [h]; exact Nat.le_of_eq (by ac_rfl), by
      rw [h]
      have : s * s * (10 ^ m * 10 ^ m) = s * 10 ^ m * (s * 10 ^ m) := by ac_rfl
      rw [this]
      exact Nat.mul_lt_mul'' (Nat.lt_succ_self _) (Nat.lt_succ_self _)⟩
    have h1 : decide (a ≠ s * s) = false := by simp [h]
    have h2 : decide (a * (10 ^ m * 10 ^ m) ≠ t * t) = false := by
      have : s * s * (10 ^ m * 10 ^ m) = s * 10 ^ m * (s * 10 ^ m) := by ac_rfl
      simp [h, e1, this]
    rw [h1, h2];refine Zhb Nat.one_pos Nat.one_pos ?_;show s * tt (e - (e - m)) * 1 = t * tt (e - m - e) * 1
    have h3 : tt (e - m - e) = 1 := by unfold tt; rw [show (e - (m : Int) - e).toNat = 0 by omega]
    have h4 : tt (e - (e - m)) = 10 ^ m := by unfold tt; rw [show (e - (e - (m : Int))).toNat = m by omega]
    rw [h3, h4, e1, Nat.mul_one, Nat.mul_one]
  have h1 : decide (a ≠ s * s) = true := by simp [h]
  rw [h1]
  symm
  have htp : 0 < t := by
    rcases Nat.eq_zero_or_pos t with h0 | h0
    · rw [h0, Nat.zero_div] at hd; omega
    exact h0
  rcases Nat.eq_zero_or_pos m with h0 | h0
  · subst h0
    have : t = s := by rw [← hd]; simp
    subst this
    have : decide (a * (10 ^ 0 * 10 ^ 0) ≠ t * t) = true := by simp [h]
    rw [this, show e - ((0 : Nat) : Int) = e by omega]
  refine Zjn (nm_n htp) (nm_d ..) ?_ ?_ hsp
  · rw [ZfR (by omega), show (e - (e - (m : Int))).toNat = m by omega]; exact hd
  rw [ZfR (by omega), show (e - (e - (m : Int))).toNat = m by omega];show (decide (t % 10 ^ m ≠ 0) || _) = true
  by_cases h2 : t % 10 ^ m = 0
  · have : decide (a * (10 ^ m * 10 ^ m) ≠ t * t) = true := by
      simp only [decide_eq_true_eq];intro h3;apply h
      have e1 : t = s * 10 ^ m := by
        have := Nat.div_add_mod t (10 ^ m);rw [hd, h2, Nat.add_zero, Nat.mul_comm] at this; exact this.symm
      have e2 : s * 10 ^ m * (s * 10 ^ m) = s * s * (10 ^ m * 10 ^ m) := by ac_rfl
      rw [e1, e2] at h3;exact Nat.eq_of_mul_eq_mul_right (Nat.mul_pos hm hm) h3
    rw [this, Bool.or_true]
  simp [h2]
theorem Zbl : lim 1 = [1] := by rw [Za8 (by decide)]; simp [B, ZA]
structure Th (a d q r P : Nat) : Prop where
  le : a / d ≤ q
  eq : q * d + r = a + P
theorem Th.init {a d q r X : Nat} (hd : 0 < d) (hq : q * (d / X) + r = a / X) (hX : 0 < X) (hle : a / d ≤ q) : Th a d q (r * X + a % X) (q * (d % X)) := by
  refine ⟨hle, ?_⟩;have h1 := Nat.div_add_mod d X;have h2 := Nat.div_add_mod a X
  have h3 : q * d = X * (q * (d / X)) + q * (d % X) := by
    have := congrArg (q * ·) h1;simp only [Nat.mul_add] at this;rw [← this]
    congr 1
    exact Nat.mul_left_comm _ _ _
  have h4 : X * (q * (d / X)) + r * X = X * (a / X) := by rw [← hq, Nat.mul_add, Nat.mul_comm r X]
  omega
theorem th_le1 {a d X : Nat} (hX : 0 < X) (hf : 0 < d / X) : a / d ≤ a / X / (d / X) := by
  rw [Nat.le_div_iff_mul_le hf];have h1 := Nat.div_mul_le_self a d;have h2 : a / d * (d / X * X) ≤ a / d * d := Nat.mul_le_mul_left _ (Nat.div_mul_le_self d X);rw [Nat.le_div_iff_mul_le hX, Nat.mul_assoc];omega
theorem th_le2 {a d X : Nat} (hd : 0 < d) (h : a < X * d) : a / d ≤ X - 1 := by
  have := (Nat.div_lt_iff_lt_mul hd).2 h;generalize a / d = z at this ⊢;omega
theorem th_eq2 {t f X : Nat} (hX : 1 ≤ X) (h : f * X ≤ t) : (X - 1) * f + (t - f * X + f) = t := by
  rw [Nat.sub_mul, Nat.one_mul];have h1 : 1 * f ≤ X * f := Nat.mul_le_mul_right _ hX;have h2 := Nat.mul_comm X f;omega
theorem Th.step {a d q r P : Nat} (h : Th a d q r P) (hd : 0 < d) (hr : r < P) : 1 ≤ q ∧ Th a d (q - 1) (r + d) P := by
  have h1 : a < q * d := by have := h.eq; omega
  have h2 := (Nat.div_lt_iff_lt_mul hd).2 h1
  have hq : 1 ≤ q := by generalize a / d = z at h2; omega
  refine ⟨hq, ?_, ?_⟩
  · generalize a / d = z at h2 ⊢; omega
  rw [Nat.sub_mul, Nat.one_mul];have h3 : 1 * d ≤ q * d := Nat.mul_le_mul_right _ hq;have := h.eq;omega
theorem Th.fin {a d q r P : Nat} (h : Th a d q r P) (hd : 0 < d) (hr : P ≤ r) : q = a / d ∧ r - P = a % d := by
  have h1 : q * d ≤ a := by have := h.eq; omega
  have h3 : q ≤ a / d := (Nat.le_div_iff_mul_le hd).2 h1;have h4 : q = a / d := Nat.le_antisymm h3 h.le;refine ⟨h4, ?_⟩;have h5 := h.eq;have h6 := Nat.div_add_mod a d;rw [Nat.mul_comm] at h6;rw [h4] at h5;omega
theorem two_steps {a d X : Nat} (hd : 0 < d) : a / X / d * X + (a / X % d * X + a % X) / d = a / d ∧ (a / X % d * X + a % X) % d = a % d := by
  have h1 := Nat.div_add_mod a X;have h2 := Nat.div_add_mod (a / X) d
  have h3 : a = (a / X % d * X + a % X) + d * (a / X / d * X) := by
    have h4 := congrArg (X * ·) h2;simp only [Nat.mul_add] at h4
    have h5 : X * (d * (a / X / d)) = d * (a / X / d * X) := by simp only [Nat.mul_comm, Nat.mul_left_comm, Nat.mul_assoc]
    have h6 := Nat.mul_comm X (a / X % d);omega
  constructor
  · have h7 : a / d = ((a / X % d * X + a % X) + d * (a / X / d * X)) / d := by rw [← h3]
    rw [h7, Nat.add_mul_div_left _ _ hd, Nat.add_comm]
  have h7 : a % d = ((a / X % d * X + a % X) + d * (a / X / d * X)) % d := by rw [← h3]
  rw [h7, Nat.add_mul_mod_self_left]
theorem lt_mulB {x : Nat} (h : 0 < x) : x < x * B := by
  have := Nat.mul_le_mul_left x (show 2 ≤ B by decide);omega
theorem ln_B (h : Nat) : (lim (B ^ h)).length ≤ h + 1 := by rw [Z6, Nat.pow_succ]; exact lt_mulB (Nat.pow_pos Zbj)
open Go.RowKit
section
variable {C : Ctx} {env : List D} {H : Heap} {dst : Option Tmp} {ty : TypeId} {pos : String} {aft : Array Edge} {gd : Option (Nat × Bool)} {x y z : Operand} {d : D}
variable {T e : TypeId} {desc descE : TypeDesc} {size bytes sizeE bytesE : Nat} {zero zeroE : Value} {tee : TE}
theorem SR.allocK {C : Ctx} {L0 : Nat → Prop} {w : World} {μ : List Nat} {H : Heap} (hs : SR C L0 w μ H) (ob : Obj) : SR C L0 (w.alloc ob) μ H ∧ Evo w (w.alloc ob) μ μ H H := by
  have he : Evo w (w.alloc ob) μ μ H H := ⟨rfl, rfl, rfl, by simp, fun b hb _ => Below.heap_alloc w _ b hb, fun _ _ h => h, fun _ _ h => h, fun i x hx => ⟨x, hx, fun o' e => ⟨o', e, rfl, rfl, rfl, fun b cur _ hw => ⟨cur, by rw [Below.heap_alloc w _ b (Array.getElem?_eq_some_iff.1 hw).1]; exact hw, rfl⟩⟩⟩⟩;refine ⟨hs.next he hs.len (fun i o b h1 h2 => ?_) hs.inj hs.own, he⟩;exact (hs.obj i o b h1 h2).same (Below.heap_alloc w _ b (hs.block_lt h1 h2))
theorem OpQ.newF {o : Oper} {dv : D} (h : ∀ (L0 : Nat → Prop) (w : World) (μ : List Nat) (a : Act), SR C L0 w μ H → (∀ x d, evO C env x = some d → VR w (forb L0 μ H) μ H d (a.eval x)) →
      ∃ (v : Value) (cur : Array Value), (execOp a.eval o).run C.P w = .ok (.value v) (w.alloc (.cells cur e)) ∧ (Evo w (w.alloc (.cells cur e)) μ μ H H → VR (w.alloc (.cells cur e)) (forb L0 μ H) μ H dv v)) : OpQ C o env H dv := by
  refine ⟨fun L0 w μ a hs hv => ?_⟩;obtain ⟨v, cur, h1, h4⟩ := h L0 w μ a hs (fun x d hx => Zap hs hv hx);unfold Oper.wp;rw [h1];obtain ⟨s1, s2⟩ := hs.allocK (.cells cur e);exact ⟨v, dv, H, μ, ⟨rfl, rfl⟩, rfl, s1, h4 s2, s2⟩
theorem ZjM {n : Nat} {zs cs : List D} {dz : D} {parts : List (Nat × Operand)} {ps : List (Nat × D)} (ht : UN C T (.slice e)) (te : TIC C e descE sizeE bytesE zeroE) (hz : Zas zeroE = some dz) (hzs : Z7 dz = some zs) (hzk : zs.all (Zai H) = true) (hzl : zs.length = sizeE)
    (hps : (parts.mapM fun p => (evO C env p.2).map fun d => (p.1, d)) = some ps) (hk : Zel H ps = true) (hf : ZfK (fun i => some (i * sizeE, sizeE)) (List.flatten (List.replicate n zs)) ps = some cs) (hck : cs.all (Zai H) = true) (hcl : cs.length = n * sizeE) (hn : n * sizeE ≤ 16777216) (h0 : 0 < sizeE) (hpu : D.pure.pures cs = true) :
    OpQ C ⟨dst, .buildSlice T n parts.toArray, ty, pos, aft, gd⟩ env H (.sl n cs) :=
  OpQ.newF (e := e) fun L0 w μ a hs he => by
    obtain ⟨e1, e2⟩ := ZiC hps;obtain ⟨z1, _⟩ := Zbb (w := w) (L := forb L0 μ H) (μ := μ) (H := H) hzs hzk (ZaZ hz);have zl := ZJ z1;rw [Array.length_toList] at zl;obtain ⟨i, i1, i2, i3, i4⟩ := te.infos
    have hbase : VRs w (forb L0 μ H) μ H (List.flatten (List.replicate n zs)) ((Array.range (n * sizeE)).map (fun j => zeroE.cells[j % zeroE.cells.size]!)).toList := by
      refine ZfE (by simp [hzl]) fun j d v h1 h2 => ?_
      have hj : j < n * zs.length := by rw [← Zic]; exact (List.getElem?_eq_some_iff.1 h1).1
      rw [ZfL (by omega) n j hj] at h1;obtain ⟨u, k1, k2⟩ := Z2 z1 h1
      have h2' : zeroE.cells[j % zeroE.cells.size]! = v := by
        simp only [Array.toList_map, Array.toList_range, List.getElem?_map] at h2;rw [List.getElem?_range (by rw [← hzl]; exact hj)] at h2
        simpa using h2
      have k1' : zeroE.cells[j % zs.length]? = some u := by simpa using k1
      rw [zl] at h2';rw [getElem!_def, k1'] at h2';simp only at h2';subst h2';exact k2
    obtain ⟨cells, r1, r2⟩ := ZiB (w := w) (L := forb L0 μ H) (μ := μ) (H := H) (place := fun i => some (i * sizeE, sizeE)) (ps := ps) (vs := parts.map fun p => (p.1, a.eval p.2)) (cells := (Array.range (n * sizeE)).map (fun j => zeroE.cells[j % zeroE.cells.size]!)) (by simp [e1, Function.comp_def]) (fun j i d i' v h1 h2 => by
      obtain ⟨x, k1, k2⟩ := e2 j i d h1;simp only [List.getElem?_map, k1, Option.map_some, Option.some.injEq, Prod.mk.injEq] at h2;obtain ⟨rfl, rfl⟩ := h2
      exact ⟨he _ _ k2, fun ds hd => ZgI hk h1 ds hd⟩) hbase hf
    have rl := ZJ r2;rw [Array.length_toList] at rl;refine ⟨.slice (some ⟨w.heap.size, 0, none⟩) n n, cells, ?_, fun hl => ?_⟩
    · have hm : (parts.toArray.map fun p => (p.1, a.eval p.2)) = (parts.map fun p => (p.1, a.eval p.2)).toArray := by simp
      have n1 : ¬ (n * sizeE > 2 ^ 24) := by omega
      simp only [execOp, hm, Instr.buildSlice, Sem.run_bind, run_underlying ht, Result.andThen_ok, te.run_size, n1, if_false, Sem.run_pure]
      by_cases hn0 : n * sizeE = 0
      · simp only [hn0, if_true, Sem.run_pure, Result.andThen_ok]
        rw [hn0] at r1
        have r1' : Instr.fill (fun i => some (i * sizeE, sizeE)) ((Array.range 0).map (fun j => (#[] : Array Value)[j % (#[] : Array Value).size]!)) (parts.map fun p => (p.1, a.eval p.2)) = some cells := by
          rw [← r1, Zga, Zga]
        simp only [r1', newRow, Sem.run_bind, run_newObj_alloc, Result.andThen_ok, Sem.run_pure]
      simp only [hn0, if_false, Sem.run_bind, te.run_zero, Result.andThen_ok, Sem.run_pure];simp only [r1, newRow, Sem.run_bind, run_newObj_alloc, Result.andThen_ok, Sem.run_pure]
    simp only [VR];have hnm : n ≤ 16777216 := Nat.le_trans (Nat.le_mul_of_pos_right n h0) hn;refine ⟨some ⟨w.heap.size, 0, none⟩, n, rfl, Nat.le_refl _, by unfold maxLen; omega, fun _ => ⟨⟨w.heap.size, 0, none⟩, rfl, by simp, fun hfb => Nat.lt_irrefl _ (hs.forb_lt hfb), Zfa fun j d hd => ?_⟩⟩;obtain ⟨v, k1, k2⟩ := Z2 r2 hd
    have hpd : d.pure = true := by
      have key : ∀ (l : List D) (j : Nat), D.pure.pures l = true → l[j]? = some d → d.pure = true := by
        intro l
        induction l with
        | nil => intro j _ h; simp at h
        | cons c l ih =>
          intro j h hj;simp only [D.pure.pures, Bool.and_eq_true] at h
          cases j with
          | zero => simp at hj; subst hj; exact h.1
          | succ j => simp only [List.getElem?_cons_succ] at hj; exact ih j h.2 hj
      exact key cs j hpu hd
    refine ⟨v, ?_, Zd7 (List.all_eq_true.1 hck _ (List.mem_of_getElem? hd)) k2, VR.step (hl.step L0).pure (VR.drop hpd k2)⟩;rw [Nat.zero_add, Zek, ZfI (heap_alloc_new w _)]
    simpa using k1
theorem Zd {n S b : Nat} {zv : Value} {zs cs : List D} {dz : D} {parts : List (Nat × Operand)} {ps : List (Nat × D)} (ht : C.ty T = some ⟨.slice e, S, b, zv⟩) (hee : C.ty e = some tee) (hz : Zas tee.zero = some dz) (hzs : Z7 dz = some zs) (hzk : zs.all (Zai H) = true) (hzl : zs.length = tee.size)
    (hps : (parts.mapM fun p => (evO C env p.2).map fun d => (p.1, d)) = some ps) (hok : Zel H ps = true) (hf : ZfK (fun i => some (i * tee.size, tee.size)) (List.flatten (List.replicate n zs)) ps = some cs) (hck : cs.all (Zai H) = true) (hcl : cs.length = n * tee.size) (hn : n * tee.size ≤ 16777216) (h0 : 0 < tee.size) (hpu : D.pure.pures cs = true) : OpQ C ⟨dst, .buildSlice T n parts.toArray, ty, pos, aft, gd⟩ env H (.sl n cs) :=
  ZjM (Zax ht) (ZU hee).1 hz hzs hzk hzl hps hok hf hck hcl hn h0 hpu
end
def CmpOK : Prop := ∀ a b : Nat, (lim a).length ≤ 1099511627776 → (lim b).length ≤ 1099511627776 → PC C 142 [numD a, numD b] (fun o => o = .ret (.int .i64 (cmpI a b)))
theorem Ze1 (a h : Nat) (ha : (lim a).length ≤ 1099511627776) (hh : h ≤ 34359738368) : PC C 235 [numD a, .int .i64 ((32 * h : Nat) : Int)] (fun o => o = .ret (numD (a * B ^ h))) := by
  have := Zb5 a (32 * h) ha (by omega)
  rwa [← ZdH] at this
theorem Znh (h : Nat) (hh : h ≤ 34359738368) : PC C 235 [.sl 1 [.int .u32 1], .int .i64 ((32 * h : Nat) : Int)] (fun o => o = .ret (numD (B ^ h))) := by
  have := Ze1 1 h (by rw [Zbl]; decide) hh;rw [Nat.one_mul] at this
  have e : numD 1 = .sl 1 [.int .u32 1] := by rw [numD, Zbl]; rfl
  rwa [e] at this
theorem Zmb (a : Nat) (ha : (lim a).length ≤ 1099511627776) (h : 1 ≤ a) : PC C 172 [numD a, .sl 1 [.int .u32 1]] (fun o => o = .ret (numD (a - 1))) := by
  have := Zb3 a 1 ha h
  have e : numD 1 = .sl 1 [.int .u32 1] := by rw [numD, Zbl]; rfl
  rwa [e] at this
theorem ZdR {a b : Nat} : cmpI a b < 0 ↔ a < b := by
  unfold cmpI
  split
  · simp [*]
  split <;> simp [*]
theorem Zmj (hcmp : CmpOK) (cut h : Nat) (hh : 1 ≤ h) (hN : h ≤ 1073741824) (htw : ∀ a d : Nat, (lim d).length = h → a < B ^ h * d → PC C 253 [numD a, numD d, .int .i64 (h : Int), .int .i64 (cut : Int)] (fun o => o = .ret (.tup [numD (a / d), numD (a % d)]))) (a d : Nat) (hd : (lim d).length = 2 * h) (ha : a < B ^ h * d) :
    PC C 298 [numD a, numD d, .int .i64 (h : Int), .int .i64 (cut : Int)] (fun o => o = .ret (.tup [numD (a / d), numD (a % d)])) := by
  refine Znr Tryz.func298 Tryz.ntmps298 Tryz.results298 ?_;have hX : 0 < B ^ h := Nat.pow_pos Zbj;have hd0 : 0 < d := Nat.pos_of_ne_zero (ZB.1 (by omega))
  have hal : (lim a).length ≤ 3 * h := by
    rw [Z6];refine Nat.lt_of_lt_of_le ha ?_;rw [show 3 * h = h + 2 * h by omega, Nat.pow_add];exact Nat.mul_le_mul_left _ (Nat.le_of_lt (Z6.1 (Nat.le_of_eq hd)))
  have hfl := ZfQ d h;have hf0 : 0 < d / B ^ h := Nat.pos_of_ne_zero (ZB.1 (by omega));have hsl := ZhU d h;have htl := ZfQ a h;have hul := ZfQ a (2 * h);refine go ?_;refine Zc rfl rfl (Zbe a h (by omega)) ?_;refine go ?_;refine Zc rfl rfl (Zbe d h (by omega)) ?_;refine go ?_;refine Zc rfl rfl (Zb4 d h (by omega)) ?_;refine gn ?_;refine Za rfl (ZaC rfl rfl (ZaD (m := 2) (by omega))) ?_;refine Zc rfl rfl (Zbe a (2 * h) (by omega)) ?_;refine Zr ?_;refine Zc rfl rfl (hcmp _ _ (by omega) (by omega)) ?_;refine zzi ?_; refine AOps.nil ?_;refine Zny (S := Nat × Nat) (fun σ : Nat × Nat => [(32, .any), (33, .any), (34, .any), (35, .any), (36, .any), (37, .any), (38, .any), (39, .any), (40, .any), (41, .any), (42, .any), (43, .any), (44, .any), (45, .any), (46, .any), (47, .any), (48, .any), (49, .any), (50, .any), (51, .any), (52, .any), (53, .any), (13, numD σ.1), (14, numD σ.2)]) (fun σ : Nat × Nat => σ.1 * (d / B ^ h) + σ.2 = a / B ^ h ∧ a / d ≤ σ.1 ∧ σ.1 < B ^ h) (fun run => ?_) ?_
  · skip
    refine Znp rfl (fun hc => ?_) (fun hc => ?_)
    · skip
      have hlt := ZdR.1 hc
      have htop : a / B ^ h < B ^ h * (d / B ^ h) := by
        rw [Nat.mul_comm, ← Nat.div_lt_iff_lt_mul hX, Nat.div_div_eq_div_mul, ← Nat.pow_add, show h + h = 2 * h by omega];exact hlt
      refine go ?_;refine Zc rfl rfl (htw (a / B ^ h) (d / B ^ h) (by omega) htop) ?_;refine Zr ?_; refine zze ?_; refine zze ?_; refine zza ?_; refine zza ?_; refine AOps.nil ?_;exact ARun.ag (run ((a / B ^ h / (d / B ^ h), a / B ^ h % (d / B ^ h))) (⟨by dsimp only; rw [Nat.mul_comm]; exact Nat.div_add_mod _ _, th_le1 hX hf0, (Nat.div_lt_iff_lt_mul hf0).2 htop⟩))
    have hge : d / B ^ h * B ^ h ≤ a / B ^ h := by
      have : ¬ a / B ^ (2 * h) < d / B ^ h := fun x => hc (ZdR.2 x)
      rw [← Nat.le_div_iff_mul_le hX, Nat.div_div_eq_div_mul, ← Nat.pow_add, show h + h = 2 * h by omega];omega
    have hB1 := ln_B h;have hsb := Zn (Nat.sub_le (a / B ^ h) (d / B ^ h * B ^ h));refine go ?_;refine Za rfl (Zd rfl rfl rfl rfl rfl rfl rfl rfl rfl rfl rfl (by decide) (by decide) rfl) ?_;refine Zr ?_;refine Za rfl (ZaC rfl rfl (ZaD (m := 32) (by omega))) ?_;refine Zc rfl rfl (Znh h (by omega)) ?_;refine Za rfl (Zd rfl rfl rfl rfl rfl rfl rfl rfl rfl rfl rfl (by decide) (by decide) rfl) ?_;refine Zc rfl rfl (Zmb _ (by omega) hX) ?_;refine gn ?_;refine Za rfl (ZaC rfl rfl (ZaD (m := 32) (by omega))) ?_;refine Zc rfl rfl (Ze1 _ h (by omega) (by omega)) ?_;refine Zc rfl rfl (Zb3 _ _ (by omega) hge) ?_;refine Zr ?_;refine Zc rfl rfl (ZaI _ _ (by omega) (by omega)) ?_;refine zza ?_; refine AOps.nil ?_;exact ARun.ag (run ((B ^ h - 1, a / B ^ h - d / B ^ h * B ^ h + d / B ^ h)) (⟨th_eq2 hX hge, th_le2 hd0 ha, Nat.sub_lt hX (by decide)⟩))
  rintro ⟨q, r⟩ hj
  try dsimp only at hj ⊢
  obtain ⟨j1, j2, j3⟩ := hj;have hT := Th.init hd0 j1 hX j2;have hql : (lim q).length ≤ h := Zgu j3;have hrl : (lim r).length ≤ 2 * h := Nat.le_trans (Zn (show r ≤ a / B ^ h by omega)) (by omega);have hpl := Zco q (d % B ^ h);have hrb := Zco r (B ^ h);have hB1 := ln_B h;have hml := ZhU a h;have hadd := Zev (r * B ^ h) (a % B ^ h);refine go ?_;refine Zc rfl rfl (Zd2 _ _ (by omega) (by omega)) ?_;refine gn ?_;refine Za rfl (ZaC rfl rfl (ZaD (m := 32) (by omega))) ?_;refine Zc rfl rfl (Ze1 _ h (by omega) (by omega)) ?_;refine go ?_;refine Zc rfl rfl (Zb4 a h (by omega)) ?_;refine Zc rfl rfl (ZaI _ _ (by omega) (by omega)) ?_;refine go ?_;refine Znw (S := Nat × Nat) (fun σ : Nat × Nat => [(65, .any), (66, .any), (67, .any), (68, .any), (69, .any), (70, .any), (71, .any), (72, .any), (73, .any), (74, .any), (13, numD σ.1), (14, numD σ.2)]) (fun σ : Nat × Nat => []) (fun σ : Nat × Nat => Th a d σ.1 σ.2 (q * (d % B ^ h)) ∧ (lim σ.1).length ≤ h ∧ (lim σ.2).length ≤ 4 * h + 2) (fun σ : Nat × Nat => σ.1) ((q, r * B ^ h + a % B ^ h)) ?_ ?_
  · exact ⟨hT, hql, by dsimp only; omega⟩
  rintro ⟨u, v⟩ hinv ih;dsimp only at hinv ih ⊢;obtain ⟨hI, hul2, hvl⟩ := hinv;refine go ?_;refine Zc rfl rfl (hcmp _ _ (by omega) (by omega)) ?_;refine go ?_;refine Znp rfl (fun h2 => ?_) (fun h2 => ?_)
  · skip
    obtain ⟨k1, k2⟩ := hI.step hd0 (ZdR.1 h2);have hvl2 := Zn (Nat.le_of_lt (ZdR.1 h2));have hvd := Zev v d;have hu1 := Zn (Nat.sub_le u 1);refine go ?_;refine Zc rfl rfl (ZaI _ _ (by omega) (by omega)) ?_;refine go ?_;refine Za rfl (Zd rfl rfl rfl rfl rfl rfl rfl rfl rfl rfl rfl (by decide) (by decide) rfl) ?_;refine Zc rfl rfl (Zmb _ (by omega) k1) ?_;refine go ?_;refine ARun.ag (ih ((u - 1, v + d)) ?_ ?_)
    · exact ⟨k2, by dsimp only; omega, by dsimp only; omega⟩
    (dsimp only; omega)
  have hge : q * (d % B ^ h) ≤ v := by
    have : ¬ v < q * (d % B ^ h) := fun x => h2 (ZdR.2 x)
    omega
  obtain ⟨f1, f2⟩ := hI.fin hd0 hge;refine ARun.exit rfl ?_;refine go ?_;refine Zc rfl rfl (Zb3 _ _ (by omega) hge) ?_;refine go ?_;refine ZnA ?_;rw [f1, f2]
  try rfl
end Go.V
