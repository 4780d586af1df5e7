/- Rules for steps and contracts of functions, each proved; no condition. -/
import Derived.Test.YtaglofmanchabaaGreatDoorA10
set_option linter.unusedVariables false
set_option linter.unusedSimpArgs false
set_option linter.unnecessarySimpa false
set_option maxHeartbeats 8000000
set_option maxRecDepth 100000
set_option synthInstance.maxHeartbeats 2000000
set_option synthInstance.maxSize 100000
namespace Go.V
open Go.RowKit Go.Proofs
abbrev rowU (xs : List Nat) : AObj := ⟨nts .u32 xs, Zs, 1, true, none⟩
theorem Zmq (xs : List Nat) (hx : U32 xs) (hl : xs.length ≤ 35184372088832) : HC C 165 [] [sln .u32 xs] (fun x H' => ∃ k, x = .ret (.row k (lim (val xs)).length) ∧ H'[k]? = some (some (rowU (lim (val xs))))) := by
  refine HC.run Zh1 Zk7 rfl Zk8 (rs := [.tmp 2]) (by rw [Zk9]) (by simp only [List.length_cons, List.length_nil, Nat.reduceAdd, Nat.reduceSub, List.replicate_succ, List.replicate_zero, List.cons_append, List.nil_append]; exact rfl) ?_;refine go ?_;refine Znw (S := Nat) (fun n : Nat => [(6, .any), (7, .any), (8, .any), (9, .any), (10, .any), (11, .any), (12, .any), (13, .any), (14, .any), (15, .any), (16, .any), (17, .any), (3, .int .i64 (n : Int))]) (fun n : Nat => []) (fun n : Nat => n ≤ xs.length ∧ val (xs.take n) = val xs) (fun n : Nat => n) (xs.length) ?_ ?_
  · exact ⟨Nat.le_refl _, by rw [List.take_length]⟩
  rintro n hinv ih;obtain ⟨hn, hv⟩ := hinv;refine ARun.seq (zzs ?_); refine Zr ?_; refine zzi ?_; refine Zr ?_;refine AOps.bool 8 rfl (fun h => ?_) (fun h => ?_)
  · skip
    replace h := Zh h;obtain ⟨m, rfl⟩ : ∃ m, n = m + 1 := ⟨n - 1, by omega⟩;refine gn ?_;refine Za rfl (Zk rfl rfl (ZY (by omega) (by omega))) ?_;refine Za rfl (Zm (i := m) rfl rfl rfl rfl (by omega) (by omega) (Zam (by omega)) (ZM rfl)) ?_;refine Za rfl (ZP rfl rfl rfl (Zb8 (i := m) (by omega))) ?_;refine go ?_;refine Znp rfl (fun h2 => ?_) (fun h2 => ?_)
    · skip
      refine gn ?_;refine Za rfl (Zk rfl rfl (ZY (by omega) (by omega))) ?_;refine go ?_;refine ARun.ag (ih (m) ?_ ?_)
      · exact ⟨by omega, by rw [← hv, List.take_add_one, ZV, show xs[m]? = some 0 by rw [List.getElem?_eq_getElem (by omega)]; have : xs.getD m 0 = 0 := (by omega); rw [List.getD_eq_getElem?_getD, List.getElem?_eq_getElem (by omega)] at this; exact congrArg some this]; simp [val]⟩
      exact Nat.lt_succ_self _
    refine ARun.exit rfl ?_;refine zzs ?_;refine Zq rfl (Z9 rfl rfl rfl rfl rfl rfl rfl rfl rfl rfl rfl (by decide) (by decide)) ?_;refine go ?_;refine Za rfl (Ze0 (m := (xs.take (m + 1)).length) (ds := nts .u32 (xs.take (m + 1))) rfl rfl rfl rfl rfl (Zg5 rfl rfl) (by omega) (by omega) (by simp) (by simp; omega) (by rw [Zdc]; simp)) ?_;refine Zq rfl (Zdn rfl rfl (by decide) rfl rfl rfl rfl rfl rfl rfl rfl rfl rfl (by simp) (by simp; omega) (by rw [Zy]; simp; omega) rfl) ?_;refine zza ?_; refine AOps.nil ?_;have hc : Canon (xs.take (m + 1)) := .inr (by rw [List.length_take, Nat.min_eq_left (by omega), Nat.add_sub_cancel, List.getD_eq_getElem?_getD, List.getElem?_take, if_pos (by omega), ← List.getD_eq_getElem?_getD]; omega);refine ARun.ret ?_;refine ⟨_, _, _, .tmp rfl .nil, .cons (.same _) .nil, ?_⟩;rw [← hv, Zg8 (hx.take _) hc];refine ⟨1, ?_, rfl⟩;show Out.ret (D.row 1 (0 + _)) = _;rw [Nat.zero_add]
  replace h := Zj h
  have hn0 : n = 0 := by omega
  subst hn0;refine go ?_;refine Znx rfl ?_;refine ARun.exit rfl ?_;refine zzs ?_;refine Zq rfl (Z9 rfl rfl rfl rfl rfl rfl rfl rfl rfl rfl rfl (by decide) (by decide)) ?_;refine go ?_;refine Za rfl (Ze0 (m := 0) (ds := nts .u32 []) rfl rfl rfl rfl rfl (bnd_int rfl (by omega)) (by omega) (by omega) (by simp) (by simp) (by rw [Zdc]; simp)) ?_;refine Zq rfl (Zdn rfl rfl (by decide) rfl rfl rfl rfl rfl rfl rfl rfl rfl rfl (by simp) (by simp) (by rw [Zy]; simp) rfl) ?_;refine go ?_;refine ARun.ret ?_;refine ⟨_, _, _, .tmp rfl .nil, .cons (.same _) .nil, ?_⟩;rw [← hv, List.take_zero, val, ZA];exact ⟨1, rfl, rfl⟩
theorem r_TrimL {xs : List Nat} {n : Nat} (hx : U32 xs) (hn : xs.length = n) (hl : n ≤ 35184372088832) (H : Heap) : HC C 165 H [.sl n (nts .u32 xs)] (fun x H' => x = .ret (.row H.length (lim (val xs)).length) ∧ H' = H ++ [some (rowU (lim (val xs)))]) := by
  subst hn; exact HC.of_live (Zmq xs hx hl) rfl rfl (by rfl) (ZT _) H
theorem ZlP (a : Nat) (hl : (lim a).length ≤ 35184372088832) : PC C 165 [numD a] (fun o => o = .ret (numD a)) := by
  have h := ZdV (lim a) (Zz a) hl
  rwa [Zl] at h
theorem Zlg (a n : Nat) (ha : (lim a).length ≤ 1099511627) (hn : n ≤ 1099511627) (h0 : 0 < a) : HC C 167 [] [numD a, .int .i64 (n : Int)] (fun x H' => ∃ k, x = .ret (.row k (lim (a * 2 ^ n)).length) ∧ H'[k]? = some (some (rowU (lim (a * 2 ^ n))))) := by
  have hL := ZB.2 (Nat.pos_iff_ne_zero.1 h0);have hr : n % 32 < 32 := Nat.mod_lt _ (by decide);refine HC.run ZiO ZlG rfl ZlH (rs := [.tmp 4]) (by rw [ZlI]) (by simp only [List.length_cons, List.length_nil, Nat.reduceAdd, Nat.reduceSub, List.replicate_succ, List.replicate_zero, List.cons_append, List.nil_append]; exact rfl) ?_;refine go ?_;refine ARun.cond rfl (fun h => ?_) (fun h => ?_)
  · skip
    exfalso
    have : (lim a).length = 0 := by simpa using h
    omega
  refine gn ?_;refine Za rfl (ZaQ rfl rfl (by omega) (Zay (n := 32) rfl (by omega))) ?_;refine Zr ?_;refine Za rfl (ZaQ rfl rfl (by omega) (Zay (n := 32) rfl (by omega))) ?_;refine gn ?_;refine Za rfl (Zf rfl rfl (Z1 (by omega))) ?_;refine Za rfl (Zf rfl rfl (Zi (by omega))) ?_;refine Zq rfl (ZkM (n := n / 32) (c := n / 32 + (lim a).length + 1) rfl rfl rfl rfl rfl rfl rfl (by omega) (by show 4 * _ ≤ _; omega) (by rw [Zy]; omega) (Za0 _)) ?_;refine go ?_;refine Znw (S := Nat × Nat × List Nat × Heap) (fun σ : Nat × Nat × List Nat × Heap => [(8, .any), (22, .any), (23, .any), (24, .any), (25, .any), (26, .any), (27, .any), (28, .any), (29, .any), (30, .any), (31, .any), (32, .any), (33, .any), (34, .any), (35, .any), (36, .any), (37, .any), (38, .any), (39, .any), (40, .any), (41, .any), (42, .any), (43, .any), (44, .any), (7, .int .i64 (σ.1 : Int)), (6, .int .u64 (σ.2.1 : Int)), (5, .row σ.2.2.2.length (n / 32 + σ.1))]) (fun σ : Nat × Nat × List Nat × Heap => σ.2.2.2 ++ [some ⟨nts .u32 σ.2.2.1, Zs, 1, true, none⟩]) (fun σ : Nat × Nat × List Nat × Heap => U32 σ.2.2.1 ∧ σ.2.2.1.length = n / 32 + σ.1 ∧ σ.1 ≤ (lim a).length ∧ σ.2.1 < 2 ^ (n % 32) ∧ val σ.2.2.1 + B ^ (n / 32 + σ.1) * σ.2.1 = a % B ^ σ.1 * 2 ^ (n % 32) * B ^ (n / 32)) (fun σ : Nat × Nat × List Nat × Heap => (lim a).length - σ.1) ((0, 0, List.replicate (n / 32) 0, [])) ?_ ?_
  · exact ⟨U32.replicate, by simp, Nat.zero_le _, Nat.two_pow_pos _, by simp [Zcz, Nat.mod_one]⟩
  rintro ⟨i, c, ys, J⟩ hinv ih;dsimp only at hinv ih ⊢;obtain ⟨hu, hl, hi, hc, hv⟩ := hinv
  have hbl : (nts .u32 ys).length = n / 32 + i := by rw [ZcL, hl]
  have hc31 : 2 ^ (n % 32) ≤ 2 ^ 31 := Nat.pow_le_pow_right (by decide) (by omega);refine go ?_;refine Znp rfl (fun h2 => ?_) (fun h2 => ?_)
  · skip
    have d1 := ZF a i;have d2 := Zkl d1 hr;refine go ?_;refine Za rfl (Zm rfl rfl rfl rfl (by omega) (by omega) (Zam (by omega)) (ZM rfl)) ?_;refine Za rfl (ZP rfl rfl rfl (Zaj (by omega))) ?_;refine Za rfl (Zo rfl rfl rfl (Zt (by omega))) ?_;refine Zr ?_;refine Za rfl (Zdt rfl rfl (by omega) (nrem (n := 32) rfl)) ?_;refine Za rfl (ZfN rfl rfl (by omega) (ZcA rfl (by omega) (by omega))) ?_;refine Zr ?_;refine Za rfl (Zf rfl rfl (Zaf (by omega))) ?_;refine go ?_;refine Za rfl (Zo rfl rfl rfl ZX) ?_;refine Zq rfl (Z9 rfl rfl rfl rfl rfl rfl rfl rfl rfl rfl rfl (by decide) (by decide)) ?_;refine Zmd rfl rfl rfl rfl rfl rfl rfl rfl hbl rfl rfl (by show (_ + 1) * 4 ≤ _; omega) (by rw [Zy]; omega) (fun J' => ?_);rw [Zdy];refine gn ?_;refine Za rfl (Za5 rfl rfl (by omega) Zcn) ?_;refine gn ?_;refine Za rfl (Zf rfl rfl (Zi (by omega))) ?_;refine go ?_;refine ARun.ag (ih ((i + 1, (dig a i * 2 ^ (n % 32) + c) / 4294967296, ys ++ [(dig a i * 2 ^ (n % 32) + c) % 4294967296], J')) ?_ ?_)
    · (obtain ⟨k1, k2, k3, k4⟩ := shlA_step hu hl hr hc hv; exact ⟨k1, k2, by dsimp only; omega, k3, k4⟩)
    (dsimp only; omega)
  have hin : i = (lim a).length := by omega
  subst hin;obtain ⟨e1, e2⟩ := shlA_end hu hl hc hr hv;rw [Nat.div_add_mod] at e2;refine ARun.exit rfl ?_;refine go ?_;refine Za rfl (Zo rfl rfl rfl ZX) ?_;refine Zq rfl (Z9 rfl rfl rfl rfl rfl rfl rfl rfl rfl rfl rfl (by decide) (by decide)) ?_;refine Zmd rfl rfl rfl rfl rfl rfl rfl rfl hbl rfl rfl (by show (_ + 1) * 4 ≤ _; omega) (by rw [Zy]; omega) (fun J' => ?_);rw [Zdy];refine Zq rfl (n_live rfl rfl (.cons (.row (o := rowU (ys ++ [c % 4294967296])) (by simp) (ZT _)) .nil) (r_TrimL (xs := ys ++ [c % 4294967296]) e1 (by simp [hl]) (by omega)) rfl) ?_;refine go ?_;refine ARun.ret ?_;refine ⟨_, _, _, .tmp rfl .nil, .cons (.same _) .nil, ?_⟩;rw [e2];exact ⟨_, rfl, by simp [frz]⟩
theorem r_ShlL (a n : Nat) (ha : (lim a).length ≤ 1099511627) (hn : n ≤ 1099511627) (h0 : 0 < a) (H : Heap) : HC C 167 H [numD a, .int .i64 (n : Int)] (fun x H' => x = .ret (.row H.length (lim (a * 2 ^ n)).length) ∧ H' = H ++ [some (rowU (lim (a * 2 ^ n)))]) :=
  HC.of_live (Zlg a n ha hn h0) rfl rfl (by rfl) (ZT _) H
theorem Zmr (n : Nat) (hn : n ≤ 1099511627) : PC C 167 [numD 0, .int .i64 (n : Int)] (fun o => o = .ret (numD 0)) := by
  have hz := ZA;refine Znr Tryz.func167 Tryz.ntmps167 Tryz.results167 ?_;refine go ?_;refine ARun.cond rfl (fun h => ?_) (fun h => ?_)
  · skip
    refine go ?_;refine Zno ?_;rfl
  exfalso
  rw [ZA] at h;cases h
theorem Zlh (a n : Nat) (ha : (lim a).length ≤ 1099511627) (hn : n ≤ 1099511627) : PC C 167 [numD a, .int .i64 (n : Int)] (fun o => o = .ret (numD (a * 2 ^ n))) := by
  rcases Nat.eq_zero_or_pos a with h0 | h0
  · subst h0
    rw [Nat.zero_mul];exact Zmr n hn
  exact PC.of_live (Zlg a n ha hn h0) (by rfl) (ZT _)
theorem Zli (a n : Nat) (ha : (lim a).length ≤ 1099511627) (hn : n ≤ 1099511627) : PC C 169 [numD a, .int .i64 (n : Int)] (fun o => o = .ret (numD (a / 2 ^ n))) := by
  have hr : n % 32 < 32 := Nat.mod_lt _ (by decide);refine Znr Tryz.func169 Tryz.ntmps169 Tryz.results169 ?_;refine gn ?_;refine Za rfl (ZaQ rfl rfl (by omega) (Zay (n := 32) rfl (by omega))) ?_;refine go ?_;refine Znp rfl (fun h => ?_) (fun h => ?_)
  · skip
    have hz : a / 2 ^ n = 0 := by
      refine Nat.div_eq_of_lt (Nat.lt_of_lt_of_le (ZcV a) ?_);rw [ZdH];exact Nat.pow_le_pow_right (by decide) (by omega)
    refine go ?_;refine ARun.ret ?_;refine ⟨_, _, _, .tmp rfl .nil, .cons .nil .nil, rfl, ?_⟩;rw [hz, numD, ZA]; rfl
  refine gn ?_;refine Za rfl (ZaQ rfl rfl (by omega) (Zay (n := 32) rfl (by omega))) ?_;refine go ?_;refine Znw (S := Nat × List Nat × Heap) (fun σ : Nat × List Nat × Heap => [(7, .any), (15, .any), (16, .any), (17, .any), (18, .any), (19, .any), (20, .any), (21, .any), (22, .any), (23, .any), (24, .any), (25, .any), (26, .any), (27, .any), (28, .any), (29, .any), (30, .any), (31, .any), (32, .any), (33, .any), (34, .any), (35, .any), (36, .any), (37, .any), (6, .int .i64 ((n / 32 + σ.1 : Nat) : Int)), (5, Zcl (0 + σ.2.2.length) (nts .u32 σ.2.1))]) (fun σ : Nat × List Nat × Heap => Za6 σ.2.2 Zs (nts .u32 σ.2.1)) (fun σ : Nat × List Nat × Heap => U32 σ.2.1 ∧ σ.2.1.length = σ.1 ∧ n / 32 + σ.1 ≤ (lim a).length ∧ val σ.2.1 = a / 2 ^ n % B ^ σ.1) (fun σ : Nat × List Nat × Heap => (lim a).length - (n / 32 + σ.1)) ((0, [], [])) ?_ ?_
  · exact ⟨U32.nil, rfl, by dsimp only; omega, by simp [val, Nat.mod_one]⟩
  rintro ⟨i, ys, J⟩ hinv ih;dsimp only at hinv ih ⊢;obtain ⟨hu, hl, hi, hv⟩ := hinv
  have hbl : (nts .u32 ys).length = i := by rw [ZcL, hl]
  refine go ?_;refine Znp rfl (fun h2 => ?_) (fun h2 => ?_)
  · skip
    have d1 := ZF a (n / 32 + i);have d2 := ZF a (n / 32 + i + 1);refine gn ?_;refine Za rfl (Zf rfl rfl (Zi (by omega))) ?_;refine Zc rfl rfl (Zbf a (n / 32 + i + 1)) ?_;refine Za rfl (ZfN rfl rfl (by omega) (ZcA (s := 32) rfl (by omega) (by omega))) ?_;refine go ?_;refine Zc rfl rfl (Zbf a (n / 32 + i)) ?_;refine Za rfl (Zf rfl rfl (Zaf (by omega))) ?_;refine Zr ?_;refine Za rfl (Zdt rfl rfl (by omega) (nrem (n := 32) rfl)) ?_;refine Za rfl (Za5 rfl rfl (by omega) (nshr rfl (by simp [IntKind.bits]; omega))) ?_;refine go ?_;refine Za rfl (Zo rfl rfl rfl ZX) ?_;rw [shrA_dig];refine Zq rfl (Z9 rfl rfl rfl rfl rfl rfl rfl rfl rfl rfl rfl (by decide) (by decide)) ?_;refine Zju rfl rfl rfl rfl rfl rfl rfl rfl rfl rfl (by show (_ + 1) * 4 ≤ _; omega) (by omega) (fun J' => ?_);rw [Zdy];refine gn ?_;refine Za rfl (Zf rfl rfl (Zi (by omega))) ?_;refine go ?_;refine ARun.ag (ih ((i + 1, ys ++ [dig (a / 2 ^ n) i], J')) ?_ ?_)
    · (obtain ⟨k1, k2, k3⟩ := shrA_step hu hl hv; exact ⟨k1, k2, by dsimp only; omega, k3⟩)
    (dsimp only; omega)
  have hin : n / 32 + i = (lim a).length := by omega
  have hle : (lim (a / 2 ^ n)).length ≤ i := by
    rw [ZeQ];refine Nat.le_trans (Zn (Nat.div_le_self _ _)) ?_;rw [ZfQ]; omega
  refine ARun.growEnd 5 rfl (ZT _) (fun J' => ?_);rw [ZiH];refine ARun.exit rfl ?_;refine go ?_;refine Zc rfl rfl (ZdV ys hu (by omega)) ?_;refine go ?_;refine Zno ?_;rw [hv, Zci hle]
  try rfl
theorem Zi1 (a b : Nat) (ha : (lim a).length ≤ 1099511627776) (hb : 0 < b) (hb2 : b < 4294967296) : PC C 164 [numD a, .int .u32 (b : Int)] (fun o => o = .ret (.agg [numD (a / b), numD (a % b)])) := by
  refine Znr Tryz.func164 Tryz.ntmps164 Tryz.results164 ?_;refine zzs ?_; refine zzA ?_; refine zzt ?_; refine Zr ?_; refine zzN ?_;refine Zq rfl (ZaG rfl rfl rfl rfl rfl rfl rfl (by omega) (by rw [Zy]; omega) (Za0 _)) ?_;refine gn ?_;refine Za rfl (Zk rfl rfl (IntWalk.i64_in _ (by omega))) ?_;refine go ?_;refine Znw (S := Nat × Nat × List Nat) (fun σ : Nat × Nat × List Nat => [(8, .any), (15, .any), (16, .any), (17, .any), (18, .any), (19, .any), (20, .any), (21, .any), (22, .any), (23, .any), (24, .any), (25, .any), (26, .any), (27, .any), (28, .any), (29, .any), (30, .any), (31, .any), (32, .any), (33, .any), (34, .any), (35, .any), (36, .any), (37, .any), (38, .any), (7, .int .i64 ((σ.1 : Int) - 1)), (6, .int .u64 (σ.2.1 : Int))]) (fun σ : Nat × Nat × List Nat => [some ⟨[.nilsl, .nilsl], Zx, 1, true, none⟩, some ⟨nts .u32 σ.2.2, Zs, 1, true, none⟩]) (fun σ : Nat × Nat × List Nat => U32 σ.2.2 ∧ σ.2.2.length = (lim a).length ∧ σ.1 ≤ σ.2.2.length ∧ σ.2.1 < b ∧ val (σ.2.2.drop σ.1) * b + σ.2.1 = a / B ^ σ.1) (fun σ : Nat × Nat × List Nat => σ.1) (((lim a).length, 0, List.replicate (lim a).length 0)) ?_ ?_
  · exact ⟨U32.replicate, by simp, by simp, hb, by simp [val, Nat.div_eq_of_lt (ZcV a)]⟩
  rintro ⟨j, r, ys⟩ hinv ih;dsimp only at hinv ih ⊢;obtain ⟨hu, hl, hj, hr, hv⟩ := hinv;refine go ?_;refine Znp rfl (fun h => ?_) (fun h => ?_)
  · skip
    obtain ⟨i, rfl⟩ : ∃ i, j = i + 1 := ⟨j - 1, by omega⟩;rw [show (((i + 1 : Nat) : Int) - 1) = (i : Int) by omega];have d1 := ZF a i;have es : r * 2 ^ 32 + dig a i = dig a i + r * 2 ^ 32 := Nat.add_comm _ _;refine gn ?_;refine Za rfl (ZfN rfl rfl (by omega) (ZcA (s := 32) rfl (by omega) (by omega))) ?_;refine go ?_;refine Za rfl (Zm rfl rfl rfl rfl (by omega) (by omega) (Zam (by omega)) (ZM rfl)) ?_;refine Za rfl (ZP rfl rfl rfl (Zaj (by omega))) ?_;refine Za rfl (Zo rfl rfl rfl (Zt (by omega))) ?_;refine Za rfl (Zf rfl rfl (Zaf (by omega))) ?_;rw [es];refine go ?_;refine Za rfl (Zo rfl rfl rfl (Zt (by omega))) ?_;refine Za rfl (ZaQ rfl rfl (by omega) (ZeP rfl (by omega))) ?_;refine Za rfl (Zo rfl rfl rfl ZX) ?_;refine Za rfl (ZS rfl rfl rfl rfl rfl (by omega) (by omega) (Zab rfl)) ?_;refine Zq rfl (Zad rfl rfl rfl rfl rfl rfl (by simp; omega) Zbi) ?_;refine go ?_;refine Za rfl (Zo rfl rfl rfl (Zt (by omega))) ?_;refine Za rfl (Zdt rfl rfl (by omega) (nrem rfl)) ?_;refine gn ?_;refine Za rfl (Zk rfl rfl (IntWalk.i64_in _ (by omega))) ?_;refine go ?_;refine ARun.ag (ih ((i, (dig a i + r * 2 ^ 32) % b, ys.set i ((dig a i + r * 2 ^ 32) / b % 4294967296))) ?_ ?_)
    · (obtain ⟨k1, k2, k3, k4⟩ := sh_step hu hl (by omega) hb hb2 hr hv; exact ⟨k1, k2, by rw [k2]; omega, k3, k4⟩)
    (dsimp only; omega)
  have hj0 : j = 0 := by omega
  subst hj0;obtain ⟨e1, e2⟩ := sh_end hr hv;refine ARun.exit rfl ?_;refine zzs ?_; refine Zr ?_;refine Zq rfl (Zcm rfl rfl (.cons (.row rfl (ZT _)) .nil) (ZcH hu hl (by omega)) rfl) ?_;refine Zr ?_;refine Zc rfl rfl (Znj r (by omega)) ?_;refine go ?_;refine Zns ?_;rw [List.drop_zero] at e1;rw [e1, e2]
  try rfl
theorem Zhk {us : List Nat} {i n p : Nat} (h : p < n) : ((us.drop i).take n).getD p 0 = us.getD (i + p) 0 := by
  rw [Zko h, List.getD_eq_getElem?_getD, List.getElem?_drop, ← List.getD_eq_getElem?_getD]
theorem ld_start {a b s J : Nat} {us : List Nat} (hu : U32 us) (hv : val us = a * 2 ^ s) (h1 : 0 < (lim (b * 2 ^ s)).length) (hs : s < 32) (hd : 2147483648 ≤ dig (b * 2 ^ s) ((lim (b * 2 ^ s)).length - 1)) (hJ : J + (lim (b * 2 ^ s)).length = (lim a).length + 1) : Ld (a * 2 ^ s) (b * 2 ^ s) (lim (b * 2 ^ s)).length J us (List.replicate J 0) := by
  have h := ld_init (a := a) (L := 0) h1 hs hd hJ;have hr := h.hr;rw [List.replicate_zero, List.drop_nil, List.append_nil, Zjl (Zz _), Zl] at hr;refine ⟨hu, h.uq, by rw [Zjl hu, hv]; exact hr, ?_⟩;rw [List.drop_of_length_le (by simp), hv];simp [val]
theorem Zi2 (a b : Nat) (ha : (lim a).length ≤ 16777216) (hb : (lim b).length ≤ 16777216) (hb0 : 0 < b) : PC C 91 [numD a, numD b] (fun o => o = .ret (.agg [numD (a / b), numD (a % b)])) := by
  have hL := ZB.2 (Nat.pos_iff_ne_zero.1 hb0);refine Znr Tryz.func91 Tryz.ntmps91 Tryz.results91 ?_;refine go ?_;refine ARun.cond rfl (fun h1 => ?_) (fun h1 => ?_)
  · skip
    have h1 : (lim b).length = 1 := by
      have h : ((lim b).length : Int) = 1 := by simpa using h1
      omega
    have hb1 : dig b 0 = b := by
      have := Zci (a := b) (k := 1) (by omega);rw [dig, Nat.pow_zero, Nat.div_one]
      rwa [Nat.pow_one] at this
    have hbB := ZF b 0;rw [hb1] at hbB;refine go ?_;refine Za rfl (Zm rfl rfl rfl rfl (by omega) (by omega) (Zam (by omega)) (ZM (i := 0) rfl)) ?_;refine Za rfl (ZP rfl rfl rfl ((Zaj (by omega)).trans (by rw [hb1]))) ?_;refine Zc rfl rfl (Zi1 a b (by omega) hb0 hbB) ?_;refine go ?_;refine Zns ?_;rfl
  refine go ?_;refine Zc rfl rfl (ZeK a b (by omega) (by omega)) ?_;refine go ?_;refine Znp rfl (fun h2 => ?_) (fun h2 => ?_)
  · skip
    have hlt : a < b := by
      unfold cmpI at h2
      split at h2
      · assumption
      split at h2 <;> omega
    refine go ?_;refine Zc rfl rfl (ZlP a (by omega)) ?_;refine go ?_;refine ARun.ret ?_;refine ⟨_, _, _, Znt rfl rfl rfl rfl rfl rfl .nil, .cons (.agg (.cons .nil (.cons (.same _) .nil))) .nil, rfl, ?_⟩
    have hz : numD 0 = .sl 0 [] := by rw [numD, ZA]; rfl
    rw [Nat.div_eq_of_lt hlt, Nat.mod_eq_of_lt hlt, hz];rfl
  have hge : b ≤ a := by
    unfold cmpI at h2
    split at h2
    · omega
    omega
  have hln := Zn hge;have hbb := Zbk b;obtain ⟨s, hs⟩ : ∃ s, s = 32 * (lim b).length - bl b := ⟨_, rfl⟩
  have hs2 : s = 32 - bl (dig b ((lim b).length - 1)) := by
    have h5 := Zjj (a := b) (by omega);omega
  obtain ⟨s1, s2, s3⟩ := norm_top hL hs2
  have hla : (lim (a * 2 ^ s)).length ≤ (lim a).length + 1 := by
    refine Nat.le_trans (Zco _ _) (Nat.add_le_add_left ?_ _);rw [Z6, Nat.pow_one];exact Nat.lt_of_lt_of_le ((Nat.pow_lt_pow_iff_right (by decide)).2 s1) (by decide)
  have hlb : (lim a).length ≤ (lim (a * 2 ^ s)).length := Zn (Nat.le_mul_of_pos_right _ (Nat.two_pow_pos s));have hd0 : 0 < b * 2 ^ s := Nat.mul_pos hb0 (Nat.two_pow_pos s);have hdB : b * 2 ^ s < B ^ (lim b).length := Z6.1 (Nat.le_of_eq s2);refine gn ?_;refine Za rfl (ZaC rfl rfl (ZaD (m := 32) (by omega))) ?_;refine Zr ?_;refine Zc rfl rfl (ZhD b (by omega)) ?_;refine Za rfl (Zk rfl rfl ((Zc3 (by omega) (by omega)).trans (by rw [← hs]))) ?_;refine go ?_;refine Zc rfl rfl (Zlh b s (by omega) (by omega)) ?_;refine zza ?_; refine zzt ?_; refine Zr ?_; refine Zr ?_;refine Zq rfl (n_live rfl rfl (.cons (.same _) (.cons (.same _) .nil)) (r_ShlL a s (by omega) (by omega) (Nat.lt_of_lt_of_le hb0 hge)) rfl) ?_;refine zza ?_; refine AOps.nil (ARun.seq (ARun.block ?_))
  rcases Nat.lt_or_ge (lim a).length (lim (a * 2 ^ s)).length with hlu | hlu
  · skip
    have hU := Zz (a * 2 ^ s);have hV := Zl (a * 2 ^ s);refine ARun.loop ?_;refine go ?_;refine Za rfl (Zbv rfl rfl rfl) ?_;refine gn ?_;refine Za rfl (Zb9 rfl rfl rfl (decide_eq_false (by omega))) ?_;refine AOps.nil ?_;refine Znx rfl ?_;refine ARun.exit rfl ?_;refine gn ?_;refine Za rfl (Zk rfl rfl (Zc3 (by omega) (by omega))) ?_;refine Za rfl (Zf rfl rfl (Zi (by omega))) ?_;refine Zq rfl (ZaG rfl rfl rfl rfl rfl rfl rfl (by omega) (by rw [Zy]; omega) (Za0 _)) ?_;refine gn ?_;refine Za rfl (Zk (r := (((lim a).length - (lim b).length + 1 : Nat) : Int) - 1) rfl rfl (by rw [IntWalk.i64_in _ (by omega)]; omega)) ?_;refine zza ?_; refine AOps.nil (ARun.block ?_);rw [show (lim (a * 2 ^ s)).length = (lim a).length + 1 by omega];refine Znw (S := Nat × List Nat × List Nat) (fun σ : Nat × List Nat × List Nat => [(11, .any), (12, .any), (13, .any), (14, .any), (15, .any), (16, .any), (17, .any), (18, .any), (65, .any), (66, .any), (67, .any), (68, .any), (69, .any), (70, .any), (71, .any), (72, .any), (73, .any), (74, .any), (75, .any), (76, .any), (77, .any), (78, .any), (79, .any), (80, .any), (81, .any), (82, .any), (83, .any), (84, .any), (85, .any), (86, .any), (87, .any), (88, .any), (89, .any), (90, .any), (91, .any), (92, .any), (93, .any), (94, .any), (95, .any), (96, .any), (97, .any), (98, .any), (99, .any), (100, .any), (101, .any), (102, .any), (103, .any), (104, .any), (105, .any), (106, .any), (107, .any), (108, .any), (109, .any), (110, .any), (111, .any), (112, .any), (113, .any), (114, .any), (115, .any), (116, .any), (117, .any), (118, .any), (119, .any), (120, .any), (121, .any), (122, .any), (123, .any), (124, .any), (125, .any), (126, .any), (127, .any), (128, .any), (129, .any), (130, .any), (131, .any), (132, .any), (133, .any), (134, .any), (135, .any), (136, .any), (137, .any), (138, .any), (139, .any), (140, .any), (141, .any), (142, .any), (143, .any), (144, .any), (145, .any), (146, .any), (147, .any), (148, .any), (149, .any), (150, .any), (151, .any), (152, .any), (153, .any), (154, .any), (155, .any), (156, .any), (157, .any), (158, .any), (159, .any), (160, .any), (161, .any), (162, .any), (163, .any), (164, .any), (165, .any), (166, .any), (167, .any), (168, .any), (10, .int .i64 ((σ.1 : Int) - 1))]) (fun σ : Nat × List Nat × List Nat => [some ⟨[.nilsl, .nilsl], Zx, 1, true, none⟩, some ⟨nts .u32 σ.2.1, Zs, 1, true, none⟩, some ⟨nts .u32 σ.2.2, Zs, 1, true, none⟩]) (fun σ : Nat × List Nat × List Nat => Ld (a * 2 ^ s) (b * 2 ^ s) (lim (b * 2 ^ s)).length σ.1 σ.2.1 σ.2.2 ∧ σ.2.1.length = (lim a).length + 1 ∧ σ.2.2.length = (lim a).length - (lim b).length + 1 ∧ σ.1 ≤ σ.2.2.length) (fun σ : Nat × List Nat × List Nat => σ.1) (((lim a).length - (lim b).length + 1, lim (a * 2 ^ s), List.replicate ((lim a).length - (lim b).length + 1) 0)) ?_ ?_
    · exact ⟨ld_start hU hV (by omega) s1 (by rw [s2]; exact s3) (by omega), by simp; omega, by simp, by simp⟩
    rintro ⟨j, us, qs⟩ hinv ih1;dsimp only at hinv ih1 ⊢;obtain ⟨hI, hul, hql, hj⟩ := hinv;refine go ?_;refine Znp rfl (fun h3 => ?_) (fun h3 => ?_)
    · skip
      obtain ⟨i, rfl⟩ : ∃ i, j = i + 1 := ⟨j - 1, by omega⟩;rw [show (((i + 1 : Nat) : Int) - 1) = (i : Int) by omega];obtain ⟨w1, w2, w3⟩ := hI.win (by rw [s2]; exact hdB) (by omega);rw [s2] at w1 w2 w3
      have hwl : ((us.drop i).take ((lim b).length + 1)).length = (lim b).length + 1 := by rw [List.length_take, List.length_drop]; omega
      have hwu : U32 ((us.drop i).take ((lim b).length + 1)) := (hI.ur.drop i).take _;have k := Kn.of (m := (lim b).length - 2) (n := (lim b).length) (by have h : ¬ ((lim b).length : Int) = 1 := (by simpa using h1); omega) s2 s3 hwu hwl w2;have q0 := k.first;rw [Zhk (by omega), Zhk (by omega)] at q0;have hwin := Zgc us i ((lim b).length + 1)
      have hpre : (us.take i).length = i := by rw [List.length_take]; omega
      have g0 := hI.ur.get (i + (lim b).length);have g1 := hI.ur.get (i + (lim b).length - 1);have g2 := k.hv1;have g3 := k.hv1'
      have e1 : i + ((lim b).length - 1) = i + (lim b).length - 1 := by omega
      rw [e1] at q0;refine go ?_;refine zdr 25 mixC ?_;refine gd ?_;refine .op rfl (Zf rfl rfl (Z1 (by omega))) ?_;refine .op rfl (ZS rfl rfl rfl rfl rfl (by omega) (by omega) (Zab rfl)) ?_;refine .op rfl (ZC rfl rfl rfl rfl (ZdP (by omega))) ?_;refine .op rfl (Zo rfl rfl rfl (Zt (by omega))) ?_;refine .op rfl (ZfN rfl rfl (by omega) (ZcA (s := 32) rfl (by omega) (by omega))) ?_;refine gd ?_;refine .op rfl (Zf rfl rfl (Z1 (by omega))) ?_;refine .op rfl (Zk rfl rfl (ZY (by omega) (by omega))) ?_;refine .op rfl (ZS rfl rfl rfl rfl rfl (by omega) (by omega) (Zab rfl)) ?_;refine .op rfl (ZC rfl rfl rfl rfl (ZdP (by omega))) ?_;refine .op rfl (Zo rfl rfl rfl (Zt (by omega))) ?_;refine .op rfl (Zf rfl rfl (Zaf (by omega))) ?_;refine gd ?_;refine .op rfl (Zk rfl rfl (ZY (by omega) (by omega))) ?_;refine .op rfl (Zm rfl rfl rfl rfl (by omega) (by omega) (Zam (by omega)) (ZM rfl)) ?_;refine .op rfl (ZP rfl rfl rfl (Zaj (by omega))) ?_;refine .op rfl (Zo rfl rfl rfl (Zt (by omega))) ?_;refine .op rfl (ZaQ rfl rfl (by omega) (ZeP rfl (by omega))) ?_;refine .op rfl (ZhR rfl rfl (nmin (n := 4294967295))) ?_;refine .nil (fun hG => ?_);refine zza ?_; refine zzt ?_; refine zza ?_; refine zzt ?_; refine zza ?_; refine AOps.nil (ARun.seq (zzs ?_)); refine zza ?_; refine AOps.nil (ARun.block ?_);obtain ⟨q, hq⟩ : ∃ q, q = min ((us.getD (i + (lim b).length) 0 * 2 ^ 32 + us.getD (i + (lim b).length - 1) 0) / dig (b * 2 ^ s) ((lim b).length - 1)) 4294967295 := ⟨_, rfl⟩;rw [← hq]
      have q1 : val ((us.drop i).take ((lim b).length + 1)) / (b * 2 ^ s) ≤ q := by
        rw [hq, Nat.add_comm (us.getD (i + (lim b).length) 0 * 2 ^ 32)]; exact q0
      have q2 : q < 4294967296 := by rw [hq]; exact Nat.lt_succ_of_le (Nat.min_le_right _ _)
      clear hq q0;have hdn : b * 2 ^ s < B ^ ((lim b).length + 1) := Nat.lt_of_lt_of_le hdB (Nat.pow_le_pow_right Zbj (Nat.le_succ _))
      have hqd : q * (b * 2 ^ s) < B ^ ((lim b).length + 1) := by
        rw [Nat.pow_succ, Nat.mul_comm];exact Nat.mul_lt_mul'' hdB (by rw [B_eq]; exact q2)
      refine ZnR (S := Nat × Nat × Nat × List Nat) (fun σ : Nat × Nat × Nat × List Nat => [(15, .any), (16, .any), (94, .any), (95, .any), (96, .any), (97, .any), (98, .any), (99, .any), (100, .any), (101, .any), (102, .any), (103, .any), (104, .any), (105, .any), (106, .any), (107, .any), (108, .any), (109, .any), (110, .any), (111, .any), (112, .any), (113, .any), (114, .any), (115, .any), (116, .any), (117, .any), (118, .any), (119, .any), (120, .any), (121, .any), (122, .any), (123, .any), (124, .any), (125, .any), (126, .any), (127, .any), (128, .any), (129, .any), (14, .int .i64 (σ.1 : Int)), (12, .int .u64 (σ.2.1 : Int)), (13, .int .u64 (σ.2.2.1 : Int))]) (fun σ : Nat × Nat × Nat × List Nat => [some ⟨[.nilsl, .nilsl], Zx, 1, true, none⟩, some ⟨nts .u32 (us.take i ++ σ.2.2.2 ++ us.drop (i + ((lim b).length + 1))), Zs, 1, true, none⟩, some ⟨nts .u32 qs, Zs, 1, true, none⟩]) (fun σ : Nat × Nat × Nat × List Nat => U32 σ.2.2.2 ∧ σ.2.2.2.length = (lim b).length + 1 ∧ σ.1 ≤ (lim b).length + 1 ∧ σ.2.1 < 4294967296 ∧ σ.2.2.1 ≤ 1 ∧ (∀ x, σ.1 ≤ x → σ.2.2.2.getD x 0 = ((us.drop i).take ((lim b).length + 1)).getD x 0) ∧ σ.2.1 * B ^ σ.1 ≤ q * ((b * 2 ^ s) % B ^ σ.1) ∧ val (σ.2.2.2.take σ.1) + q * ((b * 2 ^ s) % B ^ σ.1) = val (((us.drop i).take ((lim b).length + 1)).take σ.1) + B ^ σ.1 * (σ.2.2.1 + σ.2.1)) (fun σ : Nat × Nat × Nat × List Nat => (lim b).length + 1 - σ.1) ((0, 0, 0, (us.drop i).take ((lim b).length + 1))) ?_ ?_ ?_ ?_
      · exact ⟨hwu, hwl, by simp, by simp, by simp, fun p _ => rfl, by simp, by simp [val, Nat.mod_one]⟩
      · (repeat' first | exact Zag | apply Zah | apply Z4)
      · exact congrArg (fun l => [some ⟨[.nilsl, .nilsl], Zx, 1, true, none⟩, some (AObj.mk (nts .u32 l) Zs 1 true none), some (AObj.mk (nts .u32 qs) Zs 1 true none)]) hwin
      rintro ⟨p, c, bw, zs⟩ hinv2 ih2;dsimp only at hinv2 ih2 ⊢;obtain ⟨hz, hzl, hp, hc, hbw, hzw, hcb, hv⟩ := hinv2;refine go ?_;refine Znp rfl (fun h4 => ?_) (fun h4 => ?_)
      · skip
        have d1 := ZF (b * 2 ^ s) p;have m := Zcj q2 d1
        have m2 : dig (b * 2 ^ s) p * q ≤ 18446744065119617025 := by rw [Nat.mul_comm]; exact m
        have d2 := hz.get p;have hlo : (c + q * dig (b * 2 ^ s) p) % 4294967296 < 4294967296 := Nat.mod_lt _ (by decide)
        have es : dig (b * 2 ^ s) p * q + c = c + q * dig (b * 2 ^ s) p := by rw [Nat.mul_comm, Nat.add_comm]
        refine go ?_;refine Zc rfl rfl (Zbf (b * 2 ^ s) p) ?_;refine Zr ?_;refine Za rfl (ZaC rfl rfl (Zdv (by omega))) ?_;refine Zr ?_;refine Za rfl (Zf rfl rfl (Zaf (by omega))) ?_;refine zza ?_;rw [es];refine gn ?_;refine Za rfl (Za5 rfl rfl (by omega) Zcn) ?_;refine gn ?_;refine Za rfl (Zf rfl rfl (Z1 (by omega))) ?_;refine Za rfl (ZS rfl rfl rfl rfl rfl (by omega) (by omega) (Zab rfl)) ?_;refine Za rfl (ZC rfl rfl rfl rfl (ZdQ (by assumption) (by omega))) ?_;refine Za rfl (Zo rfl rfl rfl (Zt (by omega))) ?_;refine Zr ?_;refine Za rfl (Zo rfl rfl rfl ZX) ?_;refine Za rfl (Zo rfl rfl rfl (Zt (by omega))) ?_;refine Za rfl (Zk rfl rfl rfl) ?_;refine Zr ?_;refine Za rfl (Zk rfl rfl rfl) ?_;refine gn ?_;refine Za rfl (Zf rfl rfl (Z1 (by omega))) ?_;refine Zr ?_;refine Za rfl (Zo rfl rfl rfl (Zjf d2 hlo hbw)) ?_;refine Za rfl (ZS rfl rfl rfl rfl rfl (by omega) (by omega) (Zab rfl)) ?_;refine Zq rfl (Zad rfl rfl rfl rfl rfl rfl (by simp; omega) (Zgb (by assumption) (by omega))) ?_;refine gn ?_;refine Za rfl (Za5 rfl rfl (by omega) (sub_c d2 hlo hbw)) ?_;refine gn ?_;refine Za rfl (Zf rfl rfl (Zi (by omega))) ?_;refine go ?_;refine ZnC (ih2 ((p + 1, (c + q * dig (b * 2 ^ s) p) / 4294967296, subC (zs.getD p 0) ((c + q * dig (b * 2 ^ s) p) % 4294967296) bw, zs.set p (Zcy (zs.getD p 0) ((c + q * dig (b * 2 ^ s) p) % 4294967296) bw))) ?_ ?_) ?_ ?_
        · (obtain ⟨k1, k2, k3, k4, k5, k6⟩ := tk_step (w := zs.getD p 0) hz hzl (by omega) q2 hc hbw d2 hwl (hzw p (Nat.le_refl _)).symm hcb hv; exact ⟨k1, k2, by dsimp only; omega, k3, k4, fun x hx => by rw [ZbF (by omega)]; exact hzw x (by omega), k5, k6⟩)
        · (dsimp only; omega)
        · (repeat' first | exact Zag | apply Zah | apply Z4)
        rfl
      have hpn : p = (lim b).length + 1 := by omega
      subst hpn;have ht := tk_end hzl hwl hqd hdn hcb hv;clear hcb hv hzw;refine ARun.exit rfl ?_;refine go ?_;refine Znw (S := Nat × Nat × List Nat) (fun σ : Nat × Nat × List Nat => [(12, .any), (17, .any), (18, .any), (130, .any), (131, .any), (132, .any), (133, .any), (134, .any), (135, .any), (136, .any), (137, .any), (138, .any), (139, .any), (140, .any), (141, .any), (142, .any), (143, .any), (144, .any), (145, .any), (146, .any), (147, .any), (148, .any), (149, .any), (150, .any), (151, .any), (152, .any), (153, .any), (154, .any), (155, .any), (156, .any), (157, .any), (158, .any), (159, .any), (160, .any), (161, .any), (162, .any), (163, .any), (11, .int .u64 (σ.1 : Int)), (13, .int .u64 (σ.2.1 : Int))]) (fun σ : Nat × Nat × List Nat => [some ⟨[.nilsl, .nilsl], Zx, 1, true, none⟩, some ⟨nts .u32 (us.take i ++ σ.2.2 ++ us.drop (i + ((lim b).length + 1))), Zs, 1, true, none⟩, some ⟨nts .u32 qs, Zs, 1, true, none⟩]) (fun σ : Nat × Nat × List Nat => U32 σ.2.2 ∧ σ.2.2.length = (lim b).length + 1 ∧ σ.2.1 ≤ 1 ∧ val σ.2.2 + σ.1 * (b * 2 ^ s) = val ((us.drop i).take ((lim b).length + 1)) + B ^ ((lim b).length + 1) * σ.2.1 ∧ val ((us.drop i).take ((lim b).length + 1)) / (b * 2 ^ s) ≤ σ.1 ∧ σ.1 < 4294967296) (fun σ : Nat × Nat × List Nat => σ.1) ((q, bw, zs)) ?_ ?_
      · exact ⟨hz, hzl, hbw, ht, q1, q2⟩
      rintro ⟨h, bw, zs⟩ hinv3 ih3;dsimp only at hinv3 ih3 ⊢;clear ht hz hzl hbw;obtain ⟨hz, hzl, hbw, ht, hq1, hq2⟩ := hinv3;refine go ?_;refine Znp rfl (fun h5 => ?_) (fun h5 => ?_)
      · skip
        obtain rfl : bw = 1 := by omega
        have hvl := Zec hz;rw [hzl] at hvl
        have hh1 : 1 ≤ h := by
          rcases Nat.eq_zero_or_pos h with h0 | h0
          · rw [h0, Nat.zero_mul] at ht; omega
          exact h0
        refine gn ?_;refine Za rfl (Zk rfl rfl (Zeb (n := 1) (by omega) (by omega))) ?_;refine go ?_;refine Znw (S := Nat × Nat × List Nat) (fun σ : Nat × Nat × List Nat => [(18, .any), (134, .any), (135, .any), (136, .any), (137, .any), (138, .any), (139, .any), (140, .any), (141, .any), (142, .any), (143, .any), (144, .any), (145, .any), (146, .any), (147, .any), (148, .any), (149, .any), (150, .any), (151, .any), (152, .any), (153, .any), (154, .any), (155, .any), (156, .any), (157, .any), (158, .any), (159, .any), (160, .any), (17, .int .i64 (σ.1 : Int)), (12, .int .u64 (σ.2.1 : Int))]) (fun σ : Nat × Nat × List Nat => [some ⟨[.nilsl, .nilsl], Zx, 1, true, none⟩, some ⟨nts .u32 (us.take i ++ σ.2.2 ++ us.drop (i + ((lim b).length + 1))), Zs, 1, true, none⟩, some ⟨nts .u32 qs, Zs, 1, true, none⟩]) (fun σ : Nat × Nat × List Nat => U32 σ.2.2 ∧ σ.2.2.length = (lim b).length + 1 ∧ σ.1 ≤ (lim b).length + 1 ∧ σ.2.1 ≤ 1 ∧ (∀ x, σ.1 ≤ x → σ.2.2.getD x 0 = zs.getD x 0) ∧ val (σ.2.2.take σ.1) + B ^ σ.1 * σ.2.1 = val (zs.take σ.1) + (b * 2 ^ s) % B ^ σ.1) (fun σ : Nat × Nat × List Nat => (lim b).length + 1 - σ.1) ((0, 0, zs)) ?_ ?_
        · exact ⟨hz, hzl, by simp, by simp, fun p _ => rfl, by simp [val, Nat.mod_one]⟩
        rintro ⟨p, c, ys⟩ hinv4 ih4;dsimp only at hinv4 ih4 ⊢;obtain ⟨y1, y2, y3, y4, y5, y6⟩ := hinv4;refine go ?_;refine Znp rfl (fun h6 => ?_) (fun h6 => ?_)
        · skip
          have n1 := y1.get p;have n2 := ZF (b * 2 ^ s) p;have es : ys.getD p 0 + dig (b * 2 ^ s) p + c = c + (ys.getD p 0 + dig (b * 2 ^ s) p) := Nat.add_comm _ _;refine go ?_;refine zdr 13 mixC ?_;refine gd ?_;refine .op rfl (Zf rfl rfl (Z1 (by omega))) ?_;refine .op rfl (ZS rfl rfl rfl rfl rfl (by omega) (by omega) (Zab rfl)) ?_;refine .op rfl (ZC rfl rfl rfl rfl (ZdQ (by assumption) (by omega))) ?_;refine .op rfl (Zo rfl rfl rfl (Zt (by omega))) ?_;refine gd ?_;refine .op rfl (Zb rfl rfl (Zbf (b * 2 ^ s) p)) ?_;refine .op rfl (Zf rfl rfl (Zaf (by omega))) ?_;refine zdm ?_;refine .op rfl (Zf rfl rfl (Zaf (by omega))) ?_;refine .nil (fun hG => ?_);refine zza ?_;rw [es];refine gn ?_;refine Za rfl (Zf rfl rfl (Z1 (by omega))) ?_;refine Zr ?_;refine Za rfl (Zo rfl rfl rfl ZX) ?_;refine Za rfl (ZS rfl rfl rfl rfl rfl (by omega) (by omega) (Zab rfl)) ?_;refine Zq rfl (Zad rfl rfl rfl rfl rfl rfl (by simp; omega) (Zgb (by assumption) (by omega))) ?_;refine gn ?_;refine Za rfl (Za5 rfl rfl (by omega) Zcn) ?_;refine gn ?_;refine Za rfl (Zf rfl rfl (Zi (by omega))) ?_;refine go ?_;refine ZnC (ih4 ((p + 1, (c + (ys.getD p 0 + dig (b * 2 ^ s) p)) / 4294967296, ys.set p ((c + (ys.getD p 0 + dig (b * 2 ^ s) p)) % 4294967296))) ?_ ?_) ?_ ?_
          · (obtain ⟨k1, k2, k3, k4⟩ := ZhV y1 y2 hzl (by omega) y4 (y5 p (Nat.le_refl _)) y6; exact ⟨k1, k2, by dsimp only; omega, k3, fun x hx => by rw [ZbF (by omega)]; exact y5 x (by omega), k4⟩)
          · (dsimp only; omega)
          · (repeat' first | exact Zag | apply Zah | apply Z4)
          rfl
        have hpn : p = (lim b).length + 1 := by omega
        subst hpn;rw [List.take_of_length_le (by omega), List.take_of_length_le (by omega), Nat.mod_eq_of_lt hdn] at y6;obtain ⟨b1, b2, b3⟩ := dv_back ht hvl y6 y4 hd0;refine ARun.exit rfl ?_;refine gn ?_;refine Za rfl (Zk rfl rfl (Zeb (by omega) (by omega))) ?_;refine go ?_;refine ZnC (ih3 ((h - 1, 1 - c, ys)) ?_ ?_) ?_ ?_
        · exact ⟨y1, y2, by dsimp only; omega, b3, b2, by dsimp only; omega⟩
        · (dsimp only; omega)
        · (repeat' first | exact Zag | apply Zah | apply Z4)
        rfl
      obtain rfl : bw = 0 := by omega
      rw [Nat.mul_zero, Nat.add_zero] at ht;obtain ⟨r1, r2⟩ := k.exact (q := h) hq1 (by omega);have hst := hI.step (by rw [s2]; exact hdB) (by omega) (by omega) hz (by rw [s2]; exact hzl) (by rw [s2]; omega) hd0;rw [s2, ← r1] at hst;have hm : h % 4294967296 = h := Nat.mod_eq_of_lt hq2;refine ARun.exit rfl ?_;refine go ?_;refine Za rfl (Zo rfl rfl rfl ZX) ?_;refine Za rfl (ZS rfl rfl rfl rfl rfl (by omega) (by omega) (Zab rfl)) ?_;refine Zq rfl (Zad rfl rfl rfl rfl rfl rfl (by simp; omega) Zbi) ?_;refine gn ?_;refine Za rfl (Zk rfl rfl (IntWalk.i64_in _ (by omega))) ?_;refine go ?_;refine ZnC (ih1 ((i, us.take i ++ zs ++ us.drop (i + ((lim b).length + 1)), qs.set i (h % 4294967296))) ?_ ?_) ?_ ?_
      · exact ⟨by dsimp only; rw [hm, s2]; exact hst, by simp; omega, by simpa using hql, by simp; omega⟩
      · (dsimp only; omega)
      · (repeat' first | exact Zag | apply Zah | apply Z4)
      rfl
    have hj0 : j = 0 := by omega
    subst hj0;obtain ⟨f1, f2⟩ := hI.fin;refine ARun.exit rfl ?_;refine zzs ?_; refine Zr ?_;refine Zq rfl (Zcm rfl rfl (.cons (.row rfl (ZT _)) .nil) (ZcH hI.uq hql (by omega)) rfl) ?_;refine Zr ?_;refine Zq rfl (Zcm rfl rfl (.cons (.row rfl (ZT _)) .nil) (ZcH hI.ur hul (by omega)) rfl) ?_;refine Zr ?_;refine Zc rfl rfl (Zli _ s (by rw [f2]; exact Nat.le_trans (Zn (Nat.le_of_lt (Nat.mod_lt _ hd0))) (by omega)) (by omega)) ?_;refine go ?_;refine Zns ?_;rw [f1, f2, Nat.mul_div_mul_right _ _ (Nat.two_pow_pos s), Nat.mul_mod_mul_right, Nat.mul_div_cancel _ (Nat.two_pow_pos s)]
    try rfl
  have hU : U32 (lim (a * 2 ^ s) ++ [0]) := (Zz _).snoc (by decide)
  have hV : val (lim (a * 2 ^ s) ++ [0]) = a * 2 ^ s := by rw [ZV, Zl]; simp [val]
  refine ARun.loop ?_;refine go ?_;refine Za rfl (Zbv rfl rfl rfl) ?_;refine gn ?_;refine Za rfl (Zb9 rfl rfl rfl (decide_eq_true (by omega))) ?_;refine AOps.nil ?_;refine Znz rfl ?_;refine ARun.skip (ARun.block (ARun.region ?_)); refine Zr ?_;refine Zq rfl (Z9 rfl rfl rfl rfl rfl rfl rfl rfl rfl rfl rfl (by decide) (by decide)) ?_;refine Zq rfl (Zdn (cs := nts .u32 (lim (a * 2 ^ s) ++ [0])) rfl rfl (by decide) rfl rfl rfl rfl rfl rfl rfl rfl rfl rfl rfl (by show (_ + 1) * 4 ≤ _; omega) (by rw [Zy]; omega) (Zdy (x := 0))) ?_;refine zza ?_; refine AOps.nil (ARun.inBlock ?_);refine ARun.inLoop ?_;refine go ?_;refine Za rfl (Zbv rfl rfl rfl) ?_;refine gn ?_;refine Za rfl (Zb9 rfl rfl rfl (decide_eq_false (by omega))) ?_;refine AOps.nil ?_;refine Znx rfl ?_;refine ARun.exit rfl ?_;refine gn ?_;refine Za rfl (Zk rfl rfl (Zc3 (by omega) (by omega))) ?_;refine Za rfl (Zf rfl rfl (Zi (by omega))) ?_;refine Zq rfl (ZaG rfl rfl rfl rfl rfl rfl rfl (by omega) (by rw [Zy]; omega) (Za0 _)) ?_;refine gn ?_;refine Za rfl (Zk (r := (((lim a).length - (lim b).length + 1 : Nat) : Int) - 1) rfl rfl (by rw [IntWalk.i64_in _ (by omega)]; omega)) ?_;refine zza ?_; refine AOps.nil (ARun.block ?_);rw [show (lim (a * 2 ^ s)).length = (lim a).length by omega];refine Znw (S := Nat × List Nat × List Nat) (fun σ : Nat × List Nat × List Nat => [(11, .any), (12, .any), (13, .any), (14, .any), (15, .any), (16, .any), (17, .any), (18, .any), (65, .any), (66, .any), (67, .any), (68, .any), (69, .any), (70, .any), (71, .any), (72, .any), (73, .any), (74, .any), (75, .any), (76, .any), (77, .any), (78, .any), (79, .any), (80, .any), (81, .any), (82, .any), (83, .any), (84, .any), (85, .any), (86, .any), (87, .any), (88, .any), (89, .any), (90, .any), (91, .any), (92, .any), (93, .any), (94, .any), (95, .any), (96, .any), (97, .any), (98, .any), (99, .any), (100, .any), (101, .any), (102, .any), (103, .any), (104, .any), (105, .any), (106, .any), (107, .any), (108, .any), (109, .any), (110, .any), (111, .any), (112, .any), (113, .any), (114, .any), (115, .any), (116, .any), (117, .any), (118, .any), (119, .any), (120, .any), (121, .any), (122, .any), (123, .any), (124, .any), (125, .any), (126, .any), (127, .any), (128, .any), (129, .any), (130, .any), (131, .any), (132, .any), (133, .any), (134, .any), (135, .any), (136, .any), (137, .any), (138, .any), (139, .any), (140, .any), (141, .any), (142, .any), (143, .any), (144, .any), (145, .any), (146, .any), (147, .any), (148, .any), (149, .any), (150, .any), (151, .any), (152, .any), (153, .any), (154, .any), (155, .any), (156, .any), (157, .any), (158, .any), (159, .any), (160, .any), (161, .any), (162, .any), (163, .any), (164, .any), (165, .any), (166, .any), (167, .any), (168, .any), (10, .int .i64 ((σ.1 : Int) - 1))]) (fun σ : Nat × List Nat × List Nat => [some ⟨[.nilsl, .nilsl], Zx, 1, true, none⟩, none, some ⟨[.int .u32 0], Zs, 1, true, none⟩, some ⟨nts .u32 σ.2.1, Zs, 1, true, none⟩, some ⟨nts .u32 σ.2.2, Zs, 1, true, none⟩]) (fun σ : Nat × List Nat × List Nat => Ld (a * 2 ^ s) (b * 2 ^ s) (lim (b * 2 ^ s)).length σ.1 σ.2.1 σ.2.2 ∧ σ.2.1.length = (lim a).length + 1 ∧ σ.2.2.length = (lim a).length - (lim b).length + 1 ∧ σ.1 ≤ σ.2.2.length) (fun σ : Nat × List Nat × List Nat => σ.1) (((lim a).length - (lim b).length + 1, lim (a * 2 ^ s) ++ [0], List.replicate ((lim a).length - (lim b).length + 1) 0)) ?_ ?_
  · exact ⟨ld_start hU hV (by omega) s1 (by rw [s2]; exact s3) (by omega), by simp; omega, by simp, by simp⟩
  rintro ⟨j, us, qs⟩ hinv ih1;dsimp only at hinv ih1 ⊢;obtain ⟨hI, hul, hql, hj⟩ := hinv;refine go ?_;refine Znp rfl (fun h3 => ?_) (fun h3 => ?_)
  · skip
    obtain ⟨i, rfl⟩ : ∃ i, j = i + 1 := ⟨j - 1, by omega⟩;rw [show (((i + 1 : Nat) : Int) - 1) = (i : Int) by omega];obtain ⟨w1, w2, w3⟩ := hI.win (by rw [s2]; exact hdB) (by omega);rw [s2] at w1 w2 w3
    have hwl : ((us.drop i).take ((lim b).length + 1)).length = (lim b).length + 1 := by rw [List.length_take, List.length_drop]; omega
    have hwu : U32 ((us.drop i).take ((lim b).length + 1)) := (hI.ur.drop i).take _;have k := Kn.of (m := (lim b).length - 2) (n := (lim b).length) (by have h : ¬ ((lim b).length : Int) = 1 := (by simpa using h1); omega) s2 s3 hwu hwl w2;have q0 := k.first;rw [Zhk (by omega), Zhk (by omega)] at q0;have hwin := Zgc us i ((lim b).length + 1)
    have hpre : (us.take i).length = i := by rw [List.length_take]; omega
    have g0 := hI.ur.get (i + (lim b).length);have g1 := hI.ur.get (i + (lim b).length - 1);have g2 := k.hv1;have g3 := k.hv1'
    have e1 : i + ((lim b).length - 1) = i + (lim b).length - 1 := by omega
    rw [e1] at q0;refine go ?_;refine zdr 25 mixC ?_;refine gd ?_;refine .op rfl (Zf rfl rfl (Z1 (by omega))) ?_;refine .op rfl (ZS rfl rfl rfl rfl rfl (by omega) (by omega) (Zab rfl)) ?_;refine .op rfl (ZC rfl rfl rfl rfl (ZdP (by omega))) ?_;refine .op rfl (Zo rfl rfl rfl (Zt (by omega))) ?_;refine .op rfl (ZfN rfl rfl (by omega) (ZcA (s := 32) rfl (by omega) (by omega))) ?_;refine gd ?_;refine .op rfl (Zf rfl rfl (Z1 (by omega))) ?_;refine .op rfl (Zk rfl rfl (ZY (by omega) (by omega))) ?_;refine .op rfl (ZS rfl rfl rfl rfl rfl (by omega) (by omega) (Zab rfl)) ?_;refine .op rfl (ZC rfl rfl rfl rfl (ZdP (by omega))) ?_;refine .op rfl (Zo rfl rfl rfl (Zt (by omega))) ?_;refine .op rfl (Zf rfl rfl (Zaf (by omega))) ?_;refine gd ?_;refine .op rfl (Zk rfl rfl (ZY (by omega) (by omega))) ?_;refine .op rfl (Zm rfl rfl rfl rfl (by omega) (by omega) (Zam (by omega)) (ZM rfl)) ?_;refine .op rfl (ZP rfl rfl rfl (Zaj (by omega))) ?_;refine .op rfl (Zo rfl rfl rfl (Zt (by omega))) ?_;refine .op rfl (ZaQ rfl rfl (by omega) (ZeP rfl (by omega))) ?_;refine .op rfl (ZhR rfl rfl (nmin (n := 4294967295))) ?_;refine .nil (fun hG => ?_);refine zza ?_; refine zzt ?_; refine zza ?_; refine zzt ?_; refine zza ?_; refine AOps.nil (ARun.seq (zzs ?_)); refine zza ?_; refine AOps.nil (ARun.block ?_);obtain ⟨q, hq⟩ : ∃ q, q = min ((us.getD (i + (lim b).length) 0 * 2 ^ 32 + us.getD (i + (lim b).length - 1) 0) / dig (b * 2 ^ s) ((lim b).length - 1)) 4294967295 := ⟨_, rfl⟩;rw [← hq]
    have q1 : val ((us.drop i).take ((lim b).length + 1)) / (b * 2 ^ s) ≤ q := by
      rw [hq, Nat.add_comm (us.getD (i + (lim b).length) 0 * 2 ^ 32)]; exact q0
    have q2 : q < 4294967296 := by rw [hq]; exact Nat.lt_succ_of_le (Nat.min_le_right _ _)
    clear hq q0;have hdn : b * 2 ^ s < B ^ ((lim b).length + 1) := Nat.lt_of_lt_of_le hdB (Nat.pow_le_pow_right Zbj (Nat.le_succ _))
    have hqd : q * (b * 2 ^ s) < B ^ ((lim b).length + 1) := by
      rw [Nat.pow_succ, Nat.mul_comm];exact Nat.mul_lt_mul'' hdB (by rw [B_eq]; exact q2)
    refine ZnR (S := Nat × Nat × Nat × List Nat) (fun σ : Nat × Nat × Nat × List Nat => [(15, .any), (16, .any), (94, .any), (95, .any), (96, .any), (97, .any), (98, .any), (99, .any), (100, .any), (101, .any), (102, .any), (103, .any), (104, .any), (105, .any), (106, .any), (107, .any), (108, .any), (109, .any), (110, .any), (111, .any), (112, .any), (113, .any), (114, .any), (115, .any), (116, .any), (117, .any), (118, .any), (119, .any), (120, .any), (121, .any), (122, .any), (123, .any), (124, .any), (125, .any), (126, .any), (127, .any), (128, .any), (129, .any), (14, .int .i64 (σ.1 : Int)), (12, .int .u64 (σ.2.1 : Int)), (13, .int .u64 (σ.2.2.1 : Int))]) (fun σ : Nat × Nat × Nat × List Nat => [some ⟨[.nilsl, .nilsl], Zx, 1, true, none⟩, none, some ⟨[.int .u32 0], Zs, 1, true, none⟩, some ⟨nts .u32 (us.take i ++ σ.2.2.2 ++ us.drop (i + ((lim b).length + 1))), Zs, 1, true, none⟩, some ⟨nts .u32 qs, Zs, 1, true, none⟩]) (fun σ : Nat × Nat × Nat × List Nat => U32 σ.2.2.2 ∧ σ.2.2.2.length = (lim b).length + 1 ∧ σ.1 ≤ (lim b).length + 1 ∧ σ.2.1 < 4294967296 ∧ σ.2.2.1 ≤ 1 ∧ (∀ x, σ.1 ≤ x → σ.2.2.2.getD x 0 = ((us.drop i).take ((lim b).length + 1)).getD x 0) ∧ σ.2.1 * B ^ σ.1 ≤ q * ((b * 2 ^ s) % B ^ σ.1) ∧ val (σ.2.2.2.take σ.1) + q * ((b * 2 ^ s) % B ^ σ.1) = val (((us.drop i).take ((lim b).length + 1)).take σ.1) + B ^ σ.1 * (σ.2.2.1 + σ.2.1)) (fun σ : Nat × Nat × Nat × List Nat => (lim b).length + 1 - σ.1) ((0, 0, 0, (us.drop i).take ((lim b).length + 1))) ?_ ?_ ?_ ?_
    · exact ⟨hwu, hwl, by simp, by simp, by simp, fun p _ => rfl, by simp, by simp [val, Nat.mod_one]⟩
    · (repeat' first | exact Zag | apply Zah | apply Z4)
    · exact congrArg (fun l => [some ⟨[.nilsl, .nilsl], Zx, 1, true, none⟩, none, some ⟨[.int .u32 0], Zs, 1, true, none⟩, some (AObj.mk (nts .u32 l) Zs 1 true none), some (AObj.mk (nts .u32 qs) Zs 1 true none)]) hwin
    rintro ⟨p, c, bw, zs⟩ hinv2 ih2;dsimp only at hinv2 ih2 ⊢;obtain ⟨hz, hzl, hp, hc, hbw, hzw, hcb, hv⟩ := hinv2;refine go ?_;refine Znp rfl (fun h4 => ?_) (fun h4 => ?_)
    · skip
      have d1 := ZF (b * 2 ^ s) p;have m := Zcj q2 d1
      have m2 : dig (b * 2 ^ s) p * q ≤ 18446744065119617025 := by rw [Nat.mul_comm]; exact m
      have d2 := hz.get p;have hlo : (c + q * dig (b * 2 ^ s) p) % 4294967296 < 4294967296 := Nat.mod_lt _ (by decide)
      have es : dig (b * 2 ^ s) p * q + c = c + q * dig (b * 2 ^ s) p := by rw [Nat.mul_comm, Nat.add_comm]
      refine go ?_;refine Zc rfl rfl (Zbf (b * 2 ^ s) p) ?_;refine Zr ?_;refine Za rfl (ZaC rfl rfl (Zdv (by omega))) ?_;refine Zr ?_;refine Za rfl (Zf rfl rfl (Zaf (by omega))) ?_;refine zza ?_;rw [es];refine gn ?_;refine Za rfl (Za5 rfl rfl (by omega) Zcn) ?_;refine gn ?_;refine Za rfl (Zf rfl rfl (Z1 (by omega))) ?_;refine Za rfl (ZS rfl rfl rfl rfl rfl (by omega) (by omega) (Zab rfl)) ?_;refine Za rfl (ZC rfl rfl rfl rfl (ZdQ (by assumption) (by omega))) ?_;refine Za rfl (Zo rfl rfl rfl (Zt (by omega))) ?_;refine Zr ?_;refine Za rfl (Zo rfl rfl rfl ZX) ?_;refine Za rfl (Zo rfl rfl rfl (Zt (by omega))) ?_;refine Za rfl (Zk rfl rfl rfl) ?_;refine Zr ?_;refine Za rfl (Zk rfl rfl rfl) ?_;refine gn ?_;refine Za rfl (Zf rfl rfl (Z1 (by omega))) ?_;refine Zr ?_;refine Za rfl (Zo rfl rfl rfl (Zjf d2 hlo hbw)) ?_;refine Za rfl (ZS rfl rfl rfl rfl rfl (by omega) (by omega) (Zab rfl)) ?_;refine Zq rfl (Zad rfl rfl rfl rfl rfl rfl (by simp; omega) (Zgb (by assumption) (by omega))) ?_;refine gn ?_;refine Za rfl (Za5 rfl rfl (by omega) (sub_c d2 hlo hbw)) ?_;refine gn ?_;refine Za rfl (Zf rfl rfl (Zi (by omega))) ?_;refine go ?_;refine ZnC (ih2 ((p + 1, (c + q * dig (b * 2 ^ s) p) / 4294967296, subC (zs.getD p 0) ((c + q * dig (b * 2 ^ s) p) % 4294967296) bw, zs.set p (Zcy (zs.getD p 0) ((c + q * dig (b * 2 ^ s) p) % 4294967296) bw))) ?_ ?_) ?_ ?_
      · (obtain ⟨k1, k2, k3, k4, k5, k6⟩ := tk_step (w := zs.getD p 0) hz hzl (by omega) q2 hc hbw d2 hwl (hzw p (Nat.le_refl _)).symm hcb hv; exact ⟨k1, k2, by dsimp only; omega, k3, k4, fun x hx => by rw [ZbF (by omega)]; exact hzw x (by omega), k5, k6⟩)
      · (dsimp only; omega)
      · (repeat' first | exact Zag | apply Zah | apply Z4)
      rfl
    have hpn : p = (lim b).length + 1 := by omega
    subst hpn;have ht := tk_end hzl hwl hqd hdn hcb hv;clear hcb hv hzw;refine ARun.exit rfl ?_;refine go ?_;refine Znw (S := Nat × Nat × List Nat) (fun σ : Nat × Nat × List Nat => [(12, .any), (17, .any), (18, .any), (130, .any), (131, .any), (132, .any), (133, .any), (134, .any), (135, .any), (136, .any), (137, .any), (138, .any), (139, .any), (140, .any), (141, .any), (142, .any), (143, .any), (144, .any), (145, .any), (146, .any), (147, .any), (148, .any), (149, .any), (150, .any), (151, .any), (152, .any), (153, .any), (154, .any), (155, .any), (156, .any), (157, .any), (158, .any), (159, .any), (160, .any), (161, .any), (162, .any), (163, .any), (11, .int .u64 (σ.1 : Int)), (13, .int .u64 (σ.2.1 : Int))]) (fun σ : Nat × Nat × List Nat => [some ⟨[.nilsl, .nilsl], Zx, 1, true, none⟩, none, some ⟨[.int .u32 0], Zs, 1, true, none⟩, some ⟨nts .u32 (us.take i ++ σ.2.2 ++ us.drop (i + ((lim b).length + 1))), Zs, 1, true, none⟩, some ⟨nts .u32 qs, Zs, 1, true, none⟩]) (fun σ : Nat × Nat × List Nat => U32 σ.2.2 ∧ σ.2.2.length = (lim b).length + 1 ∧ σ.2.1 ≤ 1 ∧ val σ.2.2 + σ.1 * (b * 2 ^ s) = val ((us.drop i).take ((lim b).length + 1)) + B ^ ((lim b).length + 1) * σ.2.1 ∧ val ((us.drop i).take ((lim b).length + 1)) / (b * 2 ^ s) ≤ σ.1 ∧ σ.1 < 4294967296) (fun σ : Nat × Nat × List Nat => σ.1) ((q, bw, zs)) ?_ ?_
    · exact ⟨hz, hzl, hbw, ht, q1, q2⟩
    rintro ⟨h, bw, zs⟩ hinv3 ih3;dsimp only at hinv3 ih3 ⊢;clear ht hz hzl hbw;obtain ⟨hz, hzl, hbw, ht, hq1, hq2⟩ := hinv3;refine go ?_;refine Znp rfl (fun h5 => ?_) (fun h5 => ?_)
    · skip
      obtain rfl : bw = 1 := by omega
      have hvl := Zec hz;rw [hzl] at hvl
      have hh1 : 1 ≤ h := by
        rcases Nat.eq_zero_or_pos h with h0 | h0
        · rw [h0, Nat.zero_mul] at ht; omega
        exact h0
      refine gn ?_;refine Za rfl (Zk rfl rfl (Zeb (n := 1) (by omega) (by omega))) ?_;refine go ?_;refine Znw (S := Nat × Nat × List Nat) (fun σ : Nat × Nat × List Nat => [(18, .any), (134, .any), (135, .any), (136, .any), (137, .any), (138, .any), (139, .any), (140, .any), (141, .any), (142, .any), (143, .any), (144, .any), (145, .any), (146, .any), (147, .any), (148, .any), (149, .any), (150, .any), (151, .any), (152, .any), (153, .any), (154, .any), (155, .any), (156, .any), (157, .any), (158, .any), (159, .any), (160, .any), (17, .int .i64 (σ.1 : Int)), (12, .int .u64 (σ.2.1 : Int))]) (fun σ : Nat × Nat × List Nat => [some ⟨[.nilsl, .nilsl], Zx, 1, true, none⟩, none, some ⟨[.int .u32 0], Zs, 1, true, none⟩, some ⟨nts .u32 (us.take i ++ σ.2.2 ++ us.drop (i + ((lim b).length + 1))), Zs, 1, true, none⟩, some ⟨nts .u32 qs, Zs, 1, true, none⟩]) (fun σ : Nat × Nat × List Nat => U32 σ.2.2 ∧ σ.2.2.length = (lim b).length + 1 ∧ σ.1 ≤ (lim b).length + 1 ∧ σ.2.1 ≤ 1 ∧ (∀ x, σ.1 ≤ x → σ.2.2.getD x 0 = zs.getD x 0) ∧ val (σ.2.2.take σ.1) + B ^ σ.1 * σ.2.1 = val (zs.take σ.1) + (b * 2 ^ s) % B ^ σ.1) (fun σ : Nat × Nat × List Nat => (lim b).length + 1 - σ.1) ((0, 0, zs)) ?_ ?_
      · exact ⟨hz, hzl, by simp, by simp, fun p _ => rfl, by simp [val, Nat.mod_one]⟩
      rintro ⟨p, c, ys⟩ hinv4 ih4;dsimp only at hinv4 ih4 ⊢;obtain ⟨y1, y2, y3, y4, y5, y6⟩ := hinv4;refine go ?_;refine Znp rfl (fun h6 => ?_) (fun h6 => ?_)
      · skip
        have n1 := y1.get p;have n2 := ZF (b * 2 ^ s) p;have es : ys.getD p 0 + dig (b * 2 ^ s) p + c = c + (ys.getD p 0 + dig (b * 2 ^ s) p) := Nat.add_comm _ _;refine go ?_;refine zdr 13 mixC ?_;refine gd ?_;refine .op rfl (Zf rfl rfl (Z1 (by omega))) ?_;refine .op rfl (ZS rfl rfl rfl rfl rfl (by omega) (by omega) (Zab rfl)) ?_;refine .op rfl (ZC rfl rfl rfl rfl (ZdQ (by assumption) (by omega))) ?_;refine .op rfl (Zo rfl rfl rfl (Zt (by omega))) ?_;refine gd ?_;refine .op rfl (Zb rfl rfl (Zbf (b * 2 ^ s) p)) ?_;refine .op rfl (Zf rfl rfl (Zaf (by omega))) ?_;refine zdm ?_;refine .op rfl (Zf rfl rfl (Zaf (by omega))) ?_;refine .nil (fun hG => ?_);refine zza ?_;rw [es];refine gn ?_;refine Za rfl (Zf rfl rfl (Z1 (by omega))) ?_;refine Zr ?_;refine Za rfl (Zo rfl rfl rfl ZX) ?_;refine Za rfl (ZS rfl rfl rfl rfl rfl (by omega) (by omega) (Zab rfl)) ?_;refine Zq rfl (Zad rfl rfl rfl rfl rfl rfl (by simp; omega) (Zgb (by assumption) (by omega))) ?_;refine gn ?_;refine Za rfl (Za5 rfl rfl (by omega) Zcn) ?_;refine gn ?_;refine Za rfl (Zf rfl rfl (Zi (by omega))) ?_;refine go ?_;refine ZnC (ih4 ((p + 1, (c + (ys.getD p 0 + dig (b * 2 ^ s) p)) / 4294967296, ys.set p ((c + (ys.getD p 0 + dig (b * 2 ^ s) p)) % 4294967296))) ?_ ?_) ?_ ?_
        · (obtain ⟨k1, k2, k3, k4⟩ := ZhV y1 y2 hzl (by omega) y4 (y5 p (Nat.le_refl _)) y6; exact ⟨k1, k2, by dsimp only; omega, k3, fun x hx => by rw [ZbF (by omega)]; exact y5 x (by omega), k4⟩)
        · (dsimp only; omega)
        · (repeat' first | exact Zag | apply Zah | apply Z4)
        rfl
      have hpn : p = (lim b).length + 1 := by omega
      subst hpn;rw [List.take_of_length_le (by omega), List.take_of_length_le (by omega), Nat.mod_eq_of_lt hdn] at y6;obtain ⟨b1, b2, b3⟩ := dv_back ht hvl y6 y4 hd0;refine ARun.exit rfl ?_;refine gn ?_;refine Za rfl (Zk rfl rfl (Zeb (by omega) (by omega))) ?_;refine go ?_;refine ZnC (ih3 ((h - 1, 1 - c, ys)) ?_ ?_) ?_ ?_
      · exact ⟨y1, y2, by dsimp only; omega, b3, b2, by dsimp only; omega⟩
      · (dsimp only; omega)
      · (repeat' first | exact Zag | apply Zah | apply Z4)
      rfl
    obtain rfl : bw = 0 := by omega
    rw [Nat.mul_zero, Nat.add_zero] at ht;obtain ⟨r1, r2⟩ := k.exact (q := h) hq1 (by omega);have hst := hI.step (by rw [s2]; exact hdB) (by omega) (by omega) hz (by rw [s2]; exact hzl) (by rw [s2]; omega) hd0;rw [s2, ← r1] at hst;have hm : h % 4294967296 = h := Nat.mod_eq_of_lt hq2;refine ARun.exit rfl ?_;refine go ?_;refine Za rfl (Zo rfl rfl rfl ZX) ?_;refine Za rfl (ZS rfl rfl rfl rfl rfl (by omega) (by omega) (Zab rfl)) ?_;refine Zq rfl (Zad rfl rfl rfl rfl rfl rfl (by simp; omega) Zbi) ?_;refine gn ?_;refine Za rfl (Zk rfl rfl (IntWalk.i64_in _ (by omega))) ?_;refine go ?_;refine ZnC (ih1 ((i, us.take i ++ zs ++ us.drop (i + ((lim b).length + 1)), qs.set i (h % 4294967296))) ?_ ?_) ?_ ?_
    · exact ⟨by dsimp only; rw [hm, s2]; exact hst, by simp; omega, by simpa using hql, by simp; omega⟩
    · (dsimp only; omega)
    · (repeat' first | exact Zag | apply Zah | apply Z4)
    rfl
  have hj0 : j = 0 := by omega
  subst hj0;obtain ⟨f1, f2⟩ := hI.fin;refine ARun.exit rfl ?_;refine zzs ?_; refine Zr ?_;refine Zq rfl (Zcm rfl rfl (.cons (.row rfl (ZT _)) .nil) (ZcH hI.uq hql (by omega)) rfl) ?_;refine Zr ?_;refine Zq rfl (Zcm rfl rfl (.cons (.row rfl (ZT _)) .nil) (ZcH hI.ur hul (by omega)) rfl) ?_;refine Zr ?_;refine Zc rfl rfl (Zli _ s (by rw [f2]; exact Nat.le_trans (Zn (Nat.le_of_lt (Nat.mod_lt _ hd0))) (by omega)) (by omega)) ?_;refine go ?_;refine Zns ?_;rw [f1, f2, Nat.mul_div_mul_right _ _ (Nat.two_pow_pos s), Nat.mul_mod_mul_right, Nat.mul_div_cancel _ (Nat.two_pow_pos s)]
  try rfl
open Go.RowKit
section
variable {C : Ctx} {Q : Post} {ops : Array Oper} {rest : List Oper} {k : List Item} {env env' : List D} {H : Heap} {df : List ADef}
variable {t1 t2 t3 : Tmp} {T1 T2 T3 : TypeId} {y1 y2 y3 : Operand} {te1 te2 te3 : TE} {zs1 ds1 zs2 ds2 zs3 ds3 : List D} {u1 u2 u3 v1 v2 v3 : TypeId} {p1 p2 p3 q1 q2 q3 : String} {a1 a2 a3 b1 b2 b3 : Array Edge}
end
section
variable {C : Ctx} {env : List D} {H : Heap} {dst : Option Tmp} {ty : TypeId} {pos : String} {aft : Array Edge} {gd : Option (Nat × Bool)} {x : Operand} {T : TypeId} {te : TE} {f : Nat} {cs ds : List D} {d : D} {fields : Array Field} {fl : Field}
theorem Zlj (hS : C.P.underlying T = some (.struct fields)) (hf : fields[f]? = some fl) (ht : C.ty fl.type = some te) (ha : aggK te.k = true) (hx : evO C env x = some (.agg cs)) (hd : (cs.drop fl.offset).take te.size = ds) (hl : ds.length = te.size) : OpQ C ⟨dst, .field T x f, ty, pos, aft, gd⟩ env H (.agg ds) :=
  ZnE fun L0 w μ a hs he => by
    have ex := he _ _ hx;simp only [VR] at ex;obtain ⟨vs, ex, hv⟩ := ex;obtain ⟨ti, ta⟩ := ZU ht;have ha' := ta.trans ha;have ti' : TI C.P fl.type (Zd8 C.P fl.type) te.size te.bytes te.zero := ti;have hlen := ZJ hv;refine ⟨.agg (vs.toArray.extract fl.offset (fl.offset + te.size)), ?_, ?_⟩
    · simp only [execOp, ex]
      simp [Instr.field, run_underlying hS, hf, asAgg, part, ti'.run_agg, ha', ti'.run_size]
    simp only [VR];refine ⟨(vs.drop fl.offset).take te.size, by congr 1; apply Array.ext'; simp [List.extract_eq_take_drop], ?_⟩
    have hl2 : ((vs.drop fl.offset).take te.size).length = ((cs.drop fl.offset).take te.size).length := by simp [hlen]
    subst hd
    refine ZfE hl2 fun j d v h1 h2 => ?_
    rw [List.getElem?_take] at h1 h2
    split at h1
    · rw [List.getElem?_drop] at h1
      rename_i hj
      rw [if_pos hj, List.getElem?_drop] at h2;obtain ⟨v', k1, k2⟩ := Z2 hv h1;rw [h2] at k1
      injection k1 with k1
      subst k1;exact k2
    cases h1
theorem Zlk (hS : C.P.underlying T = some (.struct fields)) (hf : fields[f]? = some fl) (ht : C.ty fl.type = some te) (ha : aggK te.k = false) (hx : evO C env x = some (.agg cs)) (hd : cs[fl.offset]? = some d) : OpQ C ⟨dst, .field T x f, ty, pos, aft, gd⟩ env H d :=
  ZnE fun L0 w μ a hs he => by
    have ex := he _ _ hx;simp only [VR] at ex;obtain ⟨vs, ex, hv⟩ := ex;obtain ⟨ti, ta⟩ := ZU ht;have ha' := ta.trans ha;have ti' : TI C.P fl.type (Zd8 C.P fl.type) te.size te.bytes te.zero := ti;obtain ⟨v, k1, k2⟩ := Z2 hv hd;refine ⟨v, ?_, k2⟩;simp only [execOp, ex];simp [Instr.field, run_underlying hS, hf, asAgg, part, ti'.run_agg, ha', k1]
end
theorem divW_euclid {a m : Int} (hm : 0 < m) : (divW (awayZ 3 (a.tdiv m) (a.tmod m) a m) a m).2 = a % m := by
  have haw : awayZ 3 (a.tdiv m) (a.tmod m) a m = decide (a < 0) := rfl;rw [haw];unfold divW
  by_cases h : a < 0
  · rw [decide_eq_true h]
    have e := Int.tmod_eq_emod (a := a) (b := m)
    by_cases h0 : a.tmod m = 0
    · rw [if_pos (.inl h0)]
      dsimp only
      have : a % m = 0 := by
        have hd : m ∣ a := Int.dvd_of_tmod_eq_zero h0;exact Int.emod_eq_zero_of_dvd hd
      omega
    rw [if_neg (by rintro (h1 | h1); exact h0 h1; cases h1)];dsimp only
    have hnd : ¬ m ∣ a := fun hd => h0 (Int.tmod_eq_zero_of_dvd hd)
    rw [if_neg (by rintro (h1 | h1); omega; exact hnd h1)] at e;simp only [sgnd, cond_true];omega
  rw [decide_eq_false h, if_pos (.inr rfl)];exact Int.tmod_eq_emod_of_nonneg (by omega)
abbrev lnZ (z : Int) : Nat := (lim z.natAbs).length
theorem lnZ_fit {x : Int} {m : Nat} (hx : lnZ x ≤ m) (h : m ≤ 1024 := by decide) : fitZ x := Nat.le_trans hx h
theorem lnZ_1 : lnZ 1 ≤ 1 := by unfold lnZ; rw [show (1 : Int).natAbs = 1 from rfl, Zbl]; decide
theorem len_pos_iff {z : Int} : decide (((lim z.natAbs).length : Int) > 0) = decide (z ≠ 0) := by
  have := @ZB z.natAbs;exact decide_eq_decide.2 ⟨fun h e => (by subst e; rw [show (0 : Int).natAbs = 0 from rfl, ZA] at h; cases h), fun h => (by have := this.2 (by omega); omega)⟩
theorem ZhY : numD 0 = .sl 0 [] := by rw [numD, ZA]; rfl
theorem ZjZ {n : Nat} : (((lim n).length : Int) == 0) = decide (n = 0) := by
  rw [Bool.eq_iff_iff, beq_iff_eq, decide_eq_true_iff];have := @ZB n
  constructor
  · intro h
    apply Classical.byContradiction;intro hn;have := this.2 hn;omega
  rintro rfl; rw [ZA]; rfl
section
variable {C : Ctx} {env : List D} {H H' : Heap} {dst : Option Tmp} {ty : TypeId} {pos : String} {aft : Array Edge} {gd : Option (Nat × Bool)} {x y z : Operand} {d : D} {T kt et : TypeId} {te : TE}
theorem Zj6 {k : IntKind} {n : Int} {ks us : List D} {r : Option D} {dz : D} (hm : C.P.underlying T = some (.map kt et)) (hk : C.P.underlying kt = some (.int k)) (hte : C.ty et = some te) (hdz : Zas te.zero = some dz) (hx : evO C env x = some (.mapv ks us)) (hy : evO C env y = some (.int k n)) (hl : ks.length = us.length) (hf : ZeR k n (ks.zip us) = some r) (hd : keysI k ks = true := by rfl) :
    OpQ C ⟨dst, .lookup T x y false, ty, pos, aft, gd⟩ env H (r.getD dz) :=
  ZnE fun L0 w μ a hs he => by
    have ex := he _ _ hx;have ey := he _ _ hy;simp only [VR] at ex ey;obtain ⟨b, ea, clock, ex, _, _, k1, l, hp, k2, k3⟩ := ex;have hfn := Zhe hl hf k2 k3 hp hd
    have hg : (getObj b).run C.P w = .ok (.map ea clock) w := by simp [getObj, Sem.run, k1]
    cases r with
    | none =>
      simp only at hfn;refine ⟨te.zero, ?_, ZaZ hdz⟩;simp only [execOp, ex, ey, Instr.lookup, Sem.run_bind, run_underlying hm, Result.andThen_ok, hg, Sem.run_pure, ZaJ hk, ZbM hk hfn, (ZU hte).1.run_zero, Bool.false_eq_true, if_false]
    | some d =>
      simp only at hfn;obtain ⟨j, v, hfn, hvd⟩ := hfn;refine ⟨v, ?_, VR.lift hvd⟩;simp only [execOp, ex, ey, Instr.lookup, Sem.run_bind, run_underlying hm, Result.andThen_ok, hg, Sem.run_pure, ZaJ hk, ZbM hk hfn, Bool.false_eq_true, if_false]
end
theorem w_div3 {a m : Int} (ha : fitZ a) (hm : fitZ m) (h0 : 0 < m) : ∃ q, PC C 183 [intD a, intD m, .agg [.clos 248 []]] (fun o => o = .ret (.tup [intD q, intD (a % m)])) := by
  have h := Zlf a m ha hm (by omega) 248 _ (fun _ => Zni (a.tdiv m) (a.tmod m) a m);rw [divW_euclid h0] at h;exact ⟨_, h⟩
theorem Zkr {a b : Nat} (ha : (lim a).length ≤ 1024) (hb : (lim b).length ≤ 1024) (h : b ≤ a) : PC C 192 [numD a, numD b] (fun o => o = .ret (.tup [numD (a - b), .int .i64 0])) :=
  (Ze2 (lim a) (lim b) (Zz _) (Zz _)).mono fun o ho => by
    have : (lim (a - b)).length ≤ 1024 := Nat.le_trans (Zn (Nat.sub_le _ _)) ha;rw [ho, Zhh ha hb, Zl, Zl, if_pos h];simp only [if_pos this]
theorem natAdd_ok {a b : Nat} (ha : (lim a).length ≤ 1024) (hb : (lim b).length ≤ 1024) (h : (lim (a + b)).length ≤ 1024) : PC C 104 [numD a, numD b] (fun o => o = .ret (.tup [numD (a + b), .int .i64 0])) :=
  (ZgC (lim a) (lim b) (Zz _) (Zz _)).mono fun o ho => by
    rw [ho, Zhh ha hb, Zl, Zl];simp only [if_pos h]
theorem Zjv {w m : Nat} (h : m < 2 ^ w) (hw : 1 < 2 ^ w) : (BitVec.ofInt w (m : Int) &&& BitVec.ofInt w 1).toNat = m % 2 := by
  rw [show (1 : Int) = ((1 : Nat) : Int) from rfl, Zjh, Zjh, BitVec.toNat_and, BitVec.toNat_ofNat, BitVec.toNat_ofNat, Nat.mod_eq_of_lt h, Nat.mod_eq_of_lt hw, Nat.and_one_is_mod]
theorem nand1_i64 {m : Nat} (h : m < 9223372036854775808) : IntKind.i64.wrap ((BitVec.ofInt IntKind.i64.bits (m : Int) &&& BitVec.ofInt IntKind.i64.bits 1).toNat : Int) = ((m % 2 : Nat) : Int) := by
  have : IntKind.i64.bits = 64 := rfl;rw [this, Zjv (by omega) (by decide), IntWalk.i64_in _ (by omega)]
theorem Zks {m : Nat} (h : m < 4294967296) : IntKind.u32.wrap ((BitVec.ofInt IntKind.u32.bits (m : Int) &&& BitVec.ofInt IntKind.u32.bits 1).toNat : Int) = ((m % 2 : Nat) : Int) := by
  have : IntKind.u32.bits = 32 := rfl;rw [this, Zjv (by omega) (by decide), IntWalk.u32_in _ (by omega)]
theorem ZmT (x : Nat) (hx : x < 18446744073709551616) : PC C 291 [.int .u64 (x : Int)] (fun o => o = .ret (.int .i64 (bl x : Nat))) := by
  refine Znr Tryz.func291 Tryz.ntmps291 Tryz.results291 ?_;refine zzs ?_; refine zza ?_; refine AOps.nil (ARun.seq (zzs ?_)); refine Zr ?_; refine zzi ?_; refine AOps.nil ?_;refine Zny (S := Nat × Nat) (fun σ : Nat × Nat => [(5, .any), (6, .any), (0, .int .u64 (σ.1 : Int)), (2, .int .i64 (σ.2 : Int))]) (fun σ : Nat × Nat => σ.1 < 4294967296 ∧ σ.2 + bl σ.1 = bl x ∧ σ.2 ≤ 32) (fun run => ?_) ?_
  · skip
    refine Znp rfl (fun h => ?_) (fun h => ?_)
    · skip
      have e1 : bl x = 32 + bl (x / 2 ^ 32) := Zeu (by omega);refine gn ?_;refine Za rfl (Za5 rfl rfl (by omega) Zcn) ?_;refine zza ?_; refine zzu ?_; refine zza ?_; refine AOps.nil ?_;exact ARun.ag (run ((x / 4294967296, 32)) (⟨by dsimp only; omega, e1.symm, by dsimp only; omega⟩))
    refine ARun.skip ?_;exact ARun.ag (run ((x, 0)) (⟨by dsimp only; omega, Nat.zero_add _, by dsimp only; omega⟩))
  rintro ⟨y, c⟩ hj
  try dsimp only at hj ⊢
  obtain ⟨j1, j2, j3⟩ := hj;refine ARun.seq (zzs ?_); refine Zr ?_; refine zzi ?_; refine AOps.nil ?_;refine Zny (S := Nat × Nat) (fun σ : Nat × Nat => [(9, .any), (10, .any), (11, .any), (12, .any), (0, .int .u64 (σ.1 : Int)), (2, .int .i64 (σ.2 : Int))]) (fun σ : Nat × Nat => σ.1 < 65536 ∧ σ.2 + bl σ.1 = bl x ∧ σ.2 ≤ 48) (fun run => ?_) ?_
  · skip
    refine Znp rfl (fun h => ?_) (fun h => ?_)
    · skip
      have e1 : bl y = 16 + bl (y / 2 ^ 16) := Zeu (by omega);refine gn ?_;refine Za rfl (Za5 rfl rfl (by omega) (nshr (s := 16) rfl (by decide))) ?_;refine gn ?_;refine Za rfl (Zf rfl rfl (Zi (by omega))) ?_;refine zza ?_; refine AOps.nil ?_;exact ARun.ag (run ((y / 2 ^ 16, c + 16)) (⟨by dsimp only; omega, by dsimp only; omega, by dsimp only; omega⟩))
    refine ARun.skip ?_;exact ARun.ag (run ((y, c)) (⟨by dsimp only; omega, j2, by dsimp only; omega⟩))
  rintro ⟨z, d⟩ hj
  try dsimp only at hj ⊢
  obtain ⟨m1, m2, m3⟩ := hj;refine ARun.seq (zzs ?_); refine Zr ?_; refine zzi ?_; refine AOps.nil ?_;refine Zny (S := Nat × Nat) (fun σ : Nat × Nat => [(15, .any), (16, .any), (17, .any), (18, .any), (0, .int .u64 (σ.1 : Int)), (2, .int .i64 (σ.2 : Int))]) (fun σ : Nat × Nat => σ.1 < 256 ∧ σ.2 + bl σ.1 = bl x ∧ σ.2 ≤ 56) (fun run => ?_) ?_
  · skip
    refine Znp rfl (fun h => ?_) (fun h => ?_)
    · skip
      have e1 : bl z = 8 + bl (z / 2 ^ 8) := Zeu (by omega);refine gn ?_;refine Za rfl (Za5 rfl rfl (by omega) (nshr (s := 8) rfl (by decide))) ?_;refine gn ?_;refine Za rfl (Zf rfl rfl (Zi (by omega))) ?_;refine zza ?_; refine AOps.nil ?_;exact ARun.ag (run ((z / 2 ^ 8, d + 8)) (⟨by dsimp only; omega, by dsimp only; omega, by dsimp only; omega⟩))
    refine ARun.skip ?_;exact ARun.ag (run ((z, d)) (⟨by dsimp only; omega, m2, by dsimp only; omega⟩))
  rintro ⟨u, e⟩ hj
  try dsimp only at hj ⊢
  obtain ⟨l1, l2, l3⟩ := hj;have l4 : u % 256 = u := Nat.mod_eq_of_lt l1;have l5 := @Zby u 8;refine go ?_;refine Za rfl (Zo rfl rfl rfl ZfP) ?_;refine Za rfl (ZeH rfl rfl rfl (by omega) (Zjk (f := bl) (N := 256) (by kernel_rfl) rfl (by omega)) (Zg9 (f := bl) (N := 256) (by kernel_rfl) rfl (by omega) _)) ?_;refine Za rfl (Zo rfl rfl rfl (ZeO (bl8 _))) ?_;refine Za rfl (Zf rfl rfl (r := (bl x : Nat)) (by rw [l4, IntWalk.i64_in _ (by omega)]; omega)) ?_;refine go ?_;refine Zno ?_;rfl
theorem pc_Len (x : Nat) (hx : x < 18446744073709551616) : PC C 230 [.int .u64 (x : Int)] (fun o => o = .ret (.int .i64 (bl x : Nat))) := by
  refine Znr Tryz.func230 Tryz.ntmps230 Tryz.results230 ?_;refine go ?_;refine Znx rfl ?_;refine go ?_;refine Zc rfl rfl (ZmT x hx) ?_;refine go ?_;refine Zno ?_;rfl
theorem pow_len {a e n m : Nat} (h : e ≤ n) (hn : (lim (a ^ n)).length ≤ m) (hm : 1 ≤ m) : (lim (a ^ e)).length ≤ m := by
  rcases Nat.eq_zero_or_pos a with h0 | h0
  · subst h0
    have : (0 : Nat) ^ e ≤ 1 := by rcases Nat.eq_zero_or_pos e with h | h; subst h; decide; rw [Nat.zero_pow h]; decide
    have h2 := Zn this;rw [Zbl] at h2;exact Nat.le_trans h2 hm
  exact Nat.le_trans (Zn (Nat.pow_le_pow_right h0 h)) hn
theorem ZgF (a n : Nat) (ha : (lim a).length ≤ 100000) (hn : n ≤ 9223372036854775807) (hl : (lim (a ^ n)).length ≤ 1000000) : PC C 155 [numD a, .int .i64 (n : Int)] (fun o => o = .ret (numD (a ^ n))) := by
  have hb : bl n ≤ 63 := Zby.2 (by omega);refine Znr Tryz.func155 Tryz.ntmps155 Tryz.results155 ?_;refine gn ?_;refine Za rfl (Znq (Zd rfl rfl rfl rfl rfl rfl rfl rfl rfl rfl rfl (by decide) (by decide) rfl) ZO) ?_;refine go ?_;refine Za rfl (Zo rfl rfl rfl (Zt (by omega))) ?_;refine Zc rfl rfl (pc_Len n (by omega)) ?_;refine Za rfl (Zk rfl rfl (IntWalk.i64_in _ (by omega))) ?_;refine go ?_;refine Znw (S := Nat × Nat) (fun σ : Nat × Nat => [(12, .any), (13, .any), (14, .any), (15, .any), (16, .any), (17, .any), (18, .any), (19, .any), (20, .any), (21, .any), (22, .any), (23, .any), (24, .any), (25, .any), (26, .any), (5, numD σ.2), (6, .int .i64 ((σ.1 : Int) - 1))]) (fun σ : Nat × Nat => []) (fun σ : Nat × Nat => σ.1 ≤ bl n ∧ σ.2 = a ^ (n / 2 ^ σ.1)) (fun σ : Nat × Nat => σ.1) ((bl n, 1)) ?_ ?_
  · exact ⟨Nat.le_refl _, by dsimp only; rw [Nat.div_eq_of_lt (lt_bl n), Nat.pow_zero]⟩
  rintro ⟨k, out⟩ hinv ih;dsimp only at hinv ih ⊢;obtain ⟨hk, rfl⟩ := hinv;refine go ?_;refine Znp rfl (fun h => ?_) (fun h => ?_)
  · skip
    obtain ⟨j, rfl⟩ : ∃ j, k = j + 1 := ⟨k - 1, by omega⟩;rw [show (((j + 1 : Nat) : Int) - 1) = (j : Int) by omega]
    have e1 : n / 2 ^ (j + 1) + n / 2 ^ (j + 1) + n / 2 ^ j % 2 = n / 2 ^ j := by
      rw [Nat.pow_succ, ← Nat.div_div_eq_div_mul]; omega
    have e2 : n / 2 ^ j ≤ n := Nat.div_le_self _ _;have e3 : a ^ (n / 2 ^ (j + 1)) * a ^ (n / 2 ^ (j + 1)) = a ^ (n / 2 ^ (j + 1) + n / 2 ^ (j + 1)) := (Nat.pow_add ..).symm;have l1 := pow_len (a := a) (e := n / 2 ^ (j + 1)) (n := n) (by omega) hl (by decide);have l2 := pow_len (a := a) (e := n / 2 ^ (j + 1) + n / 2 ^ (j + 1)) (n := n) (by omega) hl (by decide);refine go ?_;refine Zc rfl rfl ((Zd2 (a ^ (n / 2 ^ (j + 1))) (a ^ (n / 2 ^ (j + 1))) (by omega) (by omega)).mono fun o ho => by rw [ho, e3]) ?_;refine gn ?_;refine Za rfl (Za5 rfl rfl (by omega) (nshr rfl (by show j ≤ 64; omega))) ?_;refine Za rfl (q_andR rfl rfl (nand1_i64 (by omega))) ?_;refine go ?_;refine ARun.cond rfl (fun h2 => ?_) (fun h2 => ?_)
    · skip
      have h2 : n / 2 ^ j % 2 = 1 := by
        have : ((n / 2 ^ j % 2 : Nat) : Int) = 1 := by simpa using h2
        omega
      have e4 : a ^ (n / 2 ^ (j + 1) + n / 2 ^ (j + 1)) * a = a ^ (n / 2 ^ j) := by rw [← Nat.pow_succ]; congr 1; omega
      refine go ?_;refine Zc rfl rfl ((Zd2 (a ^ (n / 2 ^ (j + 1) + n / 2 ^ (j + 1))) a (by omega) (by omega)).mono fun o ho => by rw [ho, e4]) ?_;refine gn ?_;refine Za rfl (Zk rfl rfl (IntWalk.i64_in _ (by omega))) ?_;refine go ?_;refine ARun.ag (ih ((j, a ^ (n / 2 ^ j))) ?_ ?_)
      · exact ⟨by dsimp only; omega, rfl⟩
      exact Nat.lt_succ_self _
    have h2 : n / 2 ^ j % 2 = 0 := by
      have : ¬ ((n / 2 ^ j % 2 : Nat) : Int) = 1 := by simpa using h2
      omega
    have e4 : n / 2 ^ (j + 1) + n / 2 ^ (j + 1) = n / 2 ^ j := by omega
    rw [e4];refine gn ?_;refine Za rfl (Zk rfl rfl (IntWalk.i64_in _ (by omega))) ?_;refine go ?_;refine ARun.ag (ih ((j, a ^ (n / 2 ^ j))) ?_ ?_)
    · exact ⟨by dsimp only; omega, rfl⟩
    exact Nat.lt_succ_self _
  have hk0 : k = 0 := by omega
  subst hk0;refine ARun.exit rfl ?_;refine go ?_;refine Zno ?_;rw [Nat.pow_zero, Nat.div_one]; try rfl
def powR (a n : Nat) : Nat × Int := if (lim (a ^ n)).length ≤ 1024 then (a ^ n, 0) else (0, 2)
theorem one_fit : (lim 1).length ≤ 1024 := by rw [Zbl]; decide
theorem Zkt {a n K : Nat} (hK : 0 < K) (h : 32 * K < n ∧ 2 ≤ a ∨ 32 * K ≤ (bl a - 1) * n) : ¬ (lim (a ^ n)).length ≤ K := by
  rw [Z6, ZdH];intro hlt
  have h2 : 2 ^ (32 * K) ≤ a ^ n := by
    rcases h with ⟨h1, h2⟩ | h
    · exact Nat.le_trans (Nat.pow_le_pow_right (by decide) (Nat.le_of_lt h1)) (Nat.pow_le_pow_left h2 n)
    have hb : 1 ≤ bl a := by
      rcases Nat.eq_zero_or_pos (bl a) with h0 | h0
      · rw [h0, Nat.zero_sub, Nat.zero_mul] at h; omega
      exact h0
    have h3 : 2 ^ (bl a - 1) ≤ a := ZfO.1 (by omega);refine Nat.le_trans (Nat.pow_le_pow_right (by decide) h) ?_;rw [Nat.pow_mul];exact Nat.pow_le_pow_left h3 n
  exact absurd hlt (Nat.not_lt.2 h2)
theorem pow_room {a n K : Nat} (hK : 0 < K) (h : bl a * n ≤ 32 * K) : (lim (a ^ n)).length ≤ K := by
  rcases Nat.eq_zero_or_pos n with h0 | h0
  · subst h0
    rw [Nat.pow_zero, Zbl]; exact hK
  rw [Z6, ZdH];refine Nat.lt_of_lt_of_le (Nat.pow_lt_pow_left (lt_bl a) (by omega)) ?_;rw [← Nat.pow_mul];exact Nat.pow_le_pow_right (by decide) h
theorem ZlQ (a n : Nat) (ha : (lim a).length ≤ 1024) (hn : n ≤ 9223372036854775807) : PC C 65 [numD a, .int .i64 (n : Int)] (fun o => o = .ret (.tup [numD (powR a n).1, .int .i64 (powR a n).2])) := by
  have pan : ∀ (e : Int) (env : List D), env[4]? = some .nilsl → env[5]? = some (.ptr 0 0) → powR a n = (0, e) → (QFin C [.tmp 4, .cell 5 ZL] fun o x => o.pure = true ∧ o = .ret (.tup [numD (powR a n).1, .int .i64 (powR a n).2])) (.pan (Zen e)) env [some ⟨[.int .i64 0], ZL, 1, true, none⟩] [.fn 140 [.ptr 0 0]] := by
    intro e env h4 h5 hr;refine DC.mono (ZfU 0 e) ?_;rintro _ _ ⟨rfl, rfl⟩;exact ⟨_, _, _, .tmp h4 (Znv h5 rfl rfl rfl rfl .nil), .cons .nil (.cons (.same _) .nil), rfl, by rw [hr, ZhY]; rfl⟩
  have hbl := Zbk a
  have hcmp : PC C 142 [numD a, .sl 1 [.int .u32 1]] (fun o => o = .ret (.int .i64 (cmpI a 1))) := by
    rw [ZO]; exact ZbI a 1 (by omega) (by rw [Zbl]; decide)
  have hc1 : decide (cmpI a 1 ≤ 0) = decide (a ≤ 1) := by
    refine decide_eq_decide.2 ?_;unfold cmpI
    split
    · constructor <;> intro <;> omega
    split <;> constructor <;> intro <;> omega
  refine Znr Tryz.func65 Tryz.ntmps65 Tryz.results65 ?_;refine zzs ?_; refine zza ?_; refine zzA ?_; refine zzt ?_;refine Zc0 rfl rfl rfl ?_;refine go ?_;refine Za rfl (Zd rfl rfl rfl rfl rfl rfl rfl rfl rfl rfl rfl (by decide) (by decide) rfl) ?_;refine Zan rfl (ZQ rfl rfl (ZnI (Zc1 [lim a] 1 rfl))) (fun _ => ?_) (fun q hq => by obtain ⟨hq, rfl⟩ := hq; simp only [List.all_cons, List.all_nil, Bool.and_true, ZaE ha] at hq; cases hq);refine gn ?_;refine Za rfl (Zb9 (b := true) rfl rfl rfl (decide_eq_true (by omega))) ?_;refine Zan rfl (ZQ rfl rfl (ZnI (ZbD _ 1))) (fun _ => ?_) (fun q hq => by obtain ⟨hq, rfl⟩ := hq; cases hq);refine zzt ?_; refine Zr ?_; refine zza ?_; refine AOps.nil (ARun.seq (ARun.seq ?_));refine Zny (S := Bool) (fun t : Bool => [(14, .any), (15, .any), (16, .any), (17, .any), (18, .any), (19, .any), (20, .any), (21, .bool t)]) (fun t : Bool => t = decide (0 < n ∧ a ≤ 1)) (fun run => ?_) ?_
  · skip
    refine gn ?_;refine Za rfl (Zb9 (b := decide (0 < n)) rfl rfl rfl (decide_eq_decide.2 (by omega))) ?_;refine Zr ?_;refine AOps.bool 16 rfl (fun c1 => ?_) (fun c1 => ?_)
    · skip
      have c1 := Zh c1;refine Zr ?_;refine Za rfl (Zd rfl rfl rfl rfl rfl rfl rfl rfl rfl rfl rfl (by decide) (by decide) rfl) ?_;refine Zc rfl rfl (hcmp) ?_;refine Za rfl (Zb9 (b := decide (a ≤ 1)) rfl rfl rfl hc1) ?_;refine ZK ?_; refine AOps.nil ?_;exact ARun.ag (run (decide (a ≤ 1)) (decide_eq_decide.2 ⟨fun h => ⟨c1, h⟩, fun h => h.2⟩))
    have c1 := Zj c1;refine Zg ?_; refine Zg ?_; refine Zg ?_; refine Zg ?_; refine ZK ?_; refine AOps.nil ?_;exact ARun.ag (run (false) ((decide_eq_false (fun h => c1 h.1)).symm))
  rintro t hj
  try dsimp only at hj ⊢
  subst hj;refine Znp rfl (fun h => ?_) (fun h => ?_)
  · skip
    have hp : a ^ n = a := by
      rcases (show a = 0 ∨ a = 1 by omega) with rfl | rfl
      · exact Nat.zero_pow h.1
      exact Nat.one_pow n
    refine go ?_;refine Zan rfl (ZQ rfl rfl (ZnI (ZaU a))) (fun hf => ?_) (fun q hq => by obtain ⟨hq, rfl⟩ := hq; exact absurd ha hq);refine go ?_;refine ARun.ret ?_;refine DC.mono (Zca 0) ?_;rintro _ _ ⟨rfl, rfl⟩;exact ⟨_, _, _, .tmp rfl (Znv rfl rfl rfl rfl rfl .nil), .cons (.same _) (.cons (.same _) .nil), rfl, by unfold powR; rw [hp, if_pos ha]; rfl⟩
  have hn2 : n = 0 ∨ 2 ≤ a := by
    rcases Nat.eq_zero_or_pos n with h0 | h0
    · exact .inl h0
    exact .inr (by apply Classical.byContradiction; intro hh; exact h ⟨h0, by omega⟩)
  have hz : ((bl a : Int) - 1) * (n : Int) = (((bl a - 1) * n : Nat) : Int) := by
    rcases Nat.eq_zero_or_pos (bl a) with h0 | h0
    · have ha0 : a = 0 := by have := Zby.1 (Nat.le_of_eq h0); rw [Nat.pow_zero] at this; omega
      have : n = 0 := by omega
      subst this;rw [Nat.mul_zero]; exact Int.mul_zero _
    rw [Int.natCast_mul]; congr 1; omega
  refine ARun.skip (zzs ?_); refine Zr ?_; refine zzi ?_; refine Zr ?_;refine AOps.bool 26 rfl (fun c3 => ?_) (fun c3 => ?_)
  · skip
    have c3 : n ≤ 32768 := by have := Zh c3; omega
    have hm : (bl a - 1) * n ≤ 32768 * 32768 := Nat.mul_le_mul (by omega) c3;refine Zr ?_;refine Zc rfl rfl (ZcQ a (by omega)) ?_;refine Za rfl (Zk rfl rfl (IntWalk.i64_in _ (by omega))) ?_;refine Zr ?_;refine Za rfl (ZaC (r := (((bl a - 1) * n : Nat) : Int)) rfl rfl (by rw [hz, IntWalk.i64_in _ (by omega)])) ?_;refine go ?_;refine Zan rfl (ZQ rfl rfl (ZnI (ZbD _ 2))) (fun hg => ?_) (fun q hq => by obtain ⟨hq, rfl⟩ := hq; exact pan 2 _ rfl rfl (by have hq : 32768 ≤ (bl a - 1) * n := (by have := Zj hq; omega); unfold powR; rw [if_neg (Zkt (by decide) (.inr (by omega)))]))
    have hg : (bl a - 1) * n < 32768 := by have := Zh hg; omega
    have hroom : (lim (a ^ n)).length ≤ 2049 := pow_room (by decide) (by
      rcases Nat.eq_zero_or_pos (bl a) with h0 | h0
      · rw [h0, Nat.zero_mul]; exact Nat.zero_le _
      have : bl a * n = (bl a - 1) * n + n := by
        obtain ⟨m, hm⟩ : ∃ m, bl a = m + 1 := ⟨bl a - 1, by omega⟩;rw [hm, Nat.add_sub_cancel, Nat.add_mul, Nat.one_mul]
      omega)
    refine go ?_;refine Zc rfl rfl (ZgF a n (by omega) hn (by omega)) ?_;refine Zan rfl (ZQ rfl rfl (ZnI (ZaU (a ^ n)))) (fun hf => ?_) (fun q hq => by obtain ⟨hq, rfl⟩ := hq; exact pan 2 _ rfl rfl (by unfold powR; rw [if_neg hq]));refine go ?_;refine ARun.ret ?_;refine DC.mono (Zca 0) ?_;rintro _ _ ⟨rfl, rfl⟩;exact ⟨_, _, _, .tmp rfl (Znv rfl rfl rfl rfl rfl .nil), .cons (.same _) (.cons (.same _) .nil), rfl, by unfold powR; rw [if_pos hf]; rfl⟩
  have c3 : ¬ n ≤ 32768 := by have := Zj c3; omega
  refine go ?_;refine Zan rfl (ZQ rfl rfl (ZnI (ZbD _ 2))) (fun hg => by cases hg) (fun q hq => by obtain ⟨hq, rfl⟩ := hq; exact pan 2 _ rfl rfl (by unfold powR; rw [if_neg (Zkt (by decide) (.inl ⟨by omega, by omega⟩))]))
end Go.V
