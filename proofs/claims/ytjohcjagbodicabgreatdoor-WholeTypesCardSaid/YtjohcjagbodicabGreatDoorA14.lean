/- A part of the proof: abstract values, rules for the steps of the program's form, and contracts of its functions, each proved; no condition. -/
import Derived.Test.YtjohcjagbodicabGreatDoorA13
import Derived.DeepKeys
set_option linter.unusedVariables false
set_option linter.unusedSimpArgs false
set_option maxHeartbeats 8000000
set_option maxRecDepth 100000
set_option synthInstance.maxSize 100000
set_option synthInstance.maxHeartbeats 2000000
namespace Go.V
open Go.RowKit Go.Proofs
structure PreC (s : ByteArray) (b a i : Nat) : Prop where
  hb : b = (bF s).1
  ha : a ≤ 1
  hi : i ≤ s.size
  n : i + (dqA b s (decide (a = 0)) i).2.1 = (bF s).2 + (dqA b s true (bF s).2).2.1
  k : (dqA b s (decide (a = 0)) i).2.2 = (dqA b s true (bF s).2).2.2
  v : nv b (dqA b s (decide (a = 0)) i).1 = nv b (dqA b s true (bF s).2).1
theorem PreC.ten {s : ByteArray} (h : isAt s 0 sZero = false) : PreC s 10 0 0 := by
  have e : bF s = (10, 0) := by unfold bF; rw [h]; rfl
  exact ⟨by rw [e], by decide, Nat.zero_le _, by rw [e]; rfl, by rw [e]; rfl, by rw [e]; rfl⟩
theorem PreC.hex {s : ByteArray} (h : isAt s 0 sZero = true) (x : isAt s 1 sX = true) : PreC s 16 0 2 := by
  have e : bF s = (16, 2) := by unfold bF; rw [h, x]; rfl
  exact ⟨by rw [e], by decide, isAt_size x, by rw [e]; rfl, by rw [e]; rfl, by rw [e]; rfl⟩
theorem PreC.bin {s : ByteArray} (h : isAt s 0 sZero = true) (x : isAt s 1 sX = false) (y : isAt s 1 sB = true) : PreC s 2 0 2 := by
  have e : bF s = (2, 2) := by unfold bF; rw [h, x, y]; rfl
  exact ⟨by rw [e], by decide, isAt_size y, by rw [e]; rfl, by rw [e]; rfl, by rw [e]; rfl⟩
theorem PreC.oct {s : ByteArray} (h : isAt s 0 sZero = true) (x : isAt s 1 sX = false) (y : isAt s 1 sB = false) : PreC s 8 1 1 := by
  have e : bF s = (8, 0) := by unfold bF; rw [h, x, y]; rfl
  have h0 := isAt_size h
  have h48 : (sby s).getD 0 0 = 48 := by
    have := isAt_one (s := s) (i := 0) (c := 48)
    rw [h, decide_eq_true h0, Bool.true_and] at this
    exact of_decide_eq_true this.symm
  have d48 : digV 48 = 0 := by decide
  have hd := dqs_dig (b := 8) (s := s) (p := 0) true h0 (by rw [h48, d48]; decide)
  rw [h48, d48] at hd
  have hn : ∀ l : List Nat, nv 8 (0 :: l) = nv 8 l := fun l => by unfold nv; rw [List.foldl_cons]
  refine ⟨by rw [e], by decide, h0, ?_, ?_, ?_⟩
  · rw [e]; show 1 + (dqs 8 false ((sby s).drop 1)).2.1 = 0 + (dqs 8 true ((sby s).drop 0)).2.1; rw [hd]; show 1 + (dqs 8 false ((sby s).drop 1)).2.1 = 0 + ((dqs 8 false ((sby s).drop 1)).2.1 + 1); omega
  · rw [e]; show (dqs 8 false ((sby s).drop 1)).2.2 = (dqs 8 true ((sby s).drop 0)).2.2; rw [hd]
  rw [e]; show nv 8 (dqs 8 false ((sby s).drop 1)).1 = nv 8 (dqs 8 true ((sby s).drop 0)).1; rw [hd]; exact (hn _).symm
theorem Zcq (s : ByteArray) : PC C Zb6 [.str s] (fun o => o = cOut (parseC s)) := by
  refine PC.rn ZcX Zgc Zgd (rs := [.cell 2 25, .cell 3 31, .cell 4 3]) (by rw [Zge]) ?_
  refine ARun.seq (ARun.region ?_)
  refine y_new rfl (Zae rfl rfl rfl rfl) ?_
  refine y_new rfl (Zae rfl rfl rfl rfl) ?_
  refine y_new rfl (Zae rfl rfl rfl rfl) ?_
  refine AOps.nil (ARun.seq (ARun.region ?_))
  refine Zdl rfl rfl rfl ?_
  refine AOps.nil (ARun.seq (ARun.region ?_)); refine zzm ?_
  refine y_op rfl (Zb0 rfl rfl) ?_
  refine zzi ?_
  refine y_gop rfl (g_call rfl rfl (PC.gp (ZaI _ 2))) (fun hg => ?_) (fun q hq => by obtain ⟨hq, rfl⟩ := hq; exact panCF (tl := []) rfl rfl rfl (by have hq : ¬ (s.size : Int) ≤ 20000 := of_decide_eq_false hq; unfold parseC; rw [if_pos (by omega)]))
  have hs : s.size ≤ 20000 := by have := of_decide_eq_true hg; omega
  obtain ⟨b2, b16, hf⟩ := bF_ok s
  have hP := parseC.eq_1 s
  rw [if_neg (show ¬ 20000 < s.size by omega)] at hP
  refine AOps.nil (ARun.seq (ARun.region ?_)); refine zzm ?_
  refine y_op rfl (Zap rfl rfl rfl rfl rfl) ?_
  refine y_new rfl (n_box rfl rfl rfl) ?_
  refine zza ?_; refine AOps.nil (ARun.seq (ARun.region ?_)); refine zza ?_; refine zza ?_; refine AOps.nil (ARun.seq ?_)
  refine ARun.joinH (S := Nat × Nat × Nat) (fun σ : Nat × Nat × Nat => [(18, .any), (19, .any), (20, .any), (21, .any), (22, .any), (23, .any), (24, .any), (25, .any), (26, .any), (27, .any), (6, .int .i64 (σ.1 : Int)), (7, .int .i64 (σ.2.1 : Int))]) (fun σ : Nat × Nat × Nat => [cellC, errO 0, intO 0, rdO s (σ.2.2 : Int)]) (fun σ : Nat × Nat × Nat => PreC s σ.1 σ.2.1 σ.2.2) (fun run => ?_) ?_
  · skip
    refine ARun.block (ARun.seq (ARun.region ?_)); refine zzm ?_
    refine Zau rfl rfl rfl rfl (ZbJ [cellC, errO 0, intO 0, rdO s ((0 : Nat) : Int)] 3 s sZero 0 rfl hs) ?_ (by rintro _ _ ⟨h, _⟩; cases h)
    rintro _ _ ⟨h, rfl⟩
    injection h with h
    subst h
    refine zzn ?_; refine zza ?_; refine AOps.nil ?_
    refine ARun.cond rfl (fun h0 => ?_) (fun h0 => ?_)
    · skip
      have h0 : isAt s 0 sZero = false := by simpa using h0
      rw [h0]
      refine ARun.skip (ARun.inBlock ?_)
      exact ARun.ag (run ((10, 0, 0)) (PreC.ten h0))
    have h0 : isAt s 0 sZero = true := by simpa using h0
    rw [h0]
    refine ARun.hp (H' := [cellC, errO 0, intO 0, rdO s ((1 : Nat) : Int)]) rfl ?_
    refine ARun.seq (ARun.region ?_); refine zzm ?_
    refine Zau rfl rfl rfl rfl (ZbJ [cellC, errO 0, intO 0, rdO s ((1 : Nat) : Int)] 3 s sX 1 rfl hs) ?_ (by rintro _ _ ⟨h, _⟩; cases h)
    rintro _ _ ⟨h, rfl⟩
    injection h with h
    subst h
    refine zza ?_; refine AOps.nil ?_
    refine ARun.cond rfl (fun x => ?_) (fun x => ?_)
    · skip
      rw [x]
      refine ARun.region ?_; refine zza ?_; refine AOps.nil (ARun.inBlock ?_)
      exact ARun.ag (run ((16, 0, 2)) (PreC.hex h0 x))
    rw [x]
    refine ARun.hp (H' := [cellC, errO 0, intO 0, rdO s ((1 : Nat) : Int)]) rfl ?_
    refine ARun.seq (ARun.region ?_); refine zzm ?_
    refine Zau rfl rfl rfl rfl (ZbJ [cellC, errO 0, intO 0, rdO s ((1 : Nat) : Int)] 3 s sB 1 rfl hs) ?_ (by rintro _ _ ⟨h, _⟩; cases h)
    rintro _ _ ⟨h, rfl⟩
    injection h with h
    subst h
    refine zza ?_; refine AOps.nil ?_
    refine ARun.cond rfl (fun y => ?_) (fun y => ?_)
    · skip
      rw [y]
      refine ARun.region ?_; refine zza ?_; refine AOps.nil (ARun.inBlock ?_)
      exact ARun.ag (run ((2, 0, 2)) (PreC.bin h0 x y))
    rw [y]
    refine ARun.region ?_; refine zza ?_; refine zza ?_; refine AOps.nil (ARun.inBlock ?_)
    exact ARun.ag (run ((8, 1, 1)) (PreC.oct h0 x y))
  rintro ⟨b, a, i⟩ hj
  try dsimp only at hj ⊢
  have hn := hj.n
  have hk := hj.k
  have hv := hj.v
  have hln := (dqA_le (b := b) (q := decide (a = 0)) hj.hi).2
  have hlt := dqs_lt (b := b) ((sby s).drop i) (decide (a = 0))
  rw [← hj.hb] at hP b2 b16
  have hto := (dqA_le (b := b) (q := true) hf).1
  generalize htt : (bF s).2 + (dqA b s true (bF s).2).2.1 = to at *
  refine ARun.seq (ARun.region ?_); refine zzm ?_; refine zzm ?_; refine zzm ?_
  refine Zau rfl rfl rfl rfl (Zlp [cellC, errO 0, intO 0, rdO s (i : Int)] 3 s i b a hj.ha hs (by omega) hj.hi rfl) ?_ (fun q H' hq => hq.elim (fun ⟨h0, hq, J, e⟩ => by (injection hq with hq; subst hq; rw [hn] at e ⊢; exact panCW (tl := rdO s ((to : Nat) : Int) :: J) rfl rfl rfl (by rw [hP, if_pos (by rw [← hk]; exact h0)]) e)) (fun ⟨_, hq, _⟩ => by cases hq))
  rintro _ _ (⟨_, h, _⟩ | ⟨hok, h, J, rfl⟩)
  · cases h
  injection h with h
  subst h
  rw [hn]
  rw [hk] at hok
  rw [if_neg (by rw [hok]; decide)] at hP
  refine AOps.hp (H' := cellC :: errO 0 :: intO 0 :: rdO s ((to : Nat) : Int) :: J) rfl ?_
  refine zza ?_; refine AOps.nil (ARun.seq (ARun.region ?_)); refine zzm ?_
  refine Zau rfl rfl rfl rfl (ZbJ _ 3 s sU to rfl hs) ?_ (by rintro _ _ ⟨h, _⟩; cases h)
  rintro _ _ ⟨h, rfl⟩
  injection h with h
  subst h
  refine AOps.hp (H' := cellC :: errO 0 :: intO 0 :: rdO s ((to + bN (isAt s to sU) : Nat) : Int) :: J) rfl ?_
  refine zza ?_; refine AOps.nil (ARun.seq (ARun.region ?_)); refine zzm ?_
  refine Zau rfl rfl rfl rfl (Zl9 _ 3 s (to + bN (isAt s to sU)) rfl hs) ?_ (by rintro _ _ ⟨h, _⟩; cases h)
  rintro _ _ ⟨h, rfl⟩
  injection h with h
  subst h
  refine AOps.hp (H' := cellC :: errO 0 :: intO 0 :: rdO s ((to + bN (isAt s to sU) + lenA s (to + bN (isAt s to sU)) : Nat) : Int) :: J) rfl ?_
  refine zza ?_; refine AOps.nil (ARun.seq ?_)
  refine ARun.joinH (S := Unit) (fun w : Unit => [(36, .any), (37, .any), (38, .any), (39, .any), (40, .any), (9, .bool (sfx s to).2.1)]) (fun w : Unit => cellC :: errO 0 :: intO 0 :: rdO s (((sfx s to).1 : Nat) : Int) :: J) (fun w : Unit => True) (fun run => ?_) ?_
  · skip
    unfold sfx at run
    refine ARun.region ?_; refine zzm ?_; refine zzm ?_
    refine AOps.bool 37 rfl (fun u => ?_) (fun u => ?_)
    · skip
      rw [u] at run ⊢
      refine zzk ?_; refine zzk ?_; refine zzp ?_; refine zza ?_; refine AOps.nil ?_
      exact ARun.ag (run (()) (trivial))
    rw [u] at run ⊢
    refine zzm ?_
    refine Zau rfl rfl rfl rfl (ZbJ _ 3 s sU (to + bN false + lenA s (to + bN false)) rfl hs) ?_ (by rintro _ _ ⟨h, _⟩; cases h)
    rintro _ _ ⟨h, rfl⟩
    injection h with h
    subst h
    refine zzp ?_; refine zza ?_; refine AOps.nil ?_
    exact ARun.ag (run (()) (trivial))
  rintro w hj
  try dsimp only at hj ⊢
  have hnum : PC C ZdD [sln .i64 (dqA b s (decide (a = 0)) i).1, .int .i64 (b : Int)] (fun o => ((lim (nv b (dqA b s true (bF s).2).1)).length ≤ 1024 ∧ o = .ret (numD (nv b (dqA b s true (bF s).2).1))) ∨ ∃ p, (¬ (lim (nv b (dqA b s true (bF s).2).1)).length ≤ 1024 ∧ p = failW 2) ∧ o = .pan p) := by
    rw [← hv]
    exact (ZkA (dqA b s (decide (a = 0)) i).1 (by omega) b (by omega) (by omega) hlt).mono fun o ho => ho.imp id (fun ⟨x, y⟩ => ⟨_, ⟨x, rfl⟩, y⟩)
  refine ARun.seq (ARun.region ?_); refine zzm ?_
  refine Zau rfl rfl rfl rfl (hc_end _ 3 s (sfx s to).1 rfl) ?_ (fun q H' hq => by obtain ⟨rfl, hq⟩ := hq; exact hq.elim (fun ⟨_, hq⟩ => by cases hq) (fun ⟨hlt, hq⟩ => by (injection hq with hq; subst hq; exact panCW (tl := rdO s (((sfx s to).1 : Nat) : Int) :: J) rfl rfl rfl (by rw [hP, if_pos hlt]) rfl)))
  rintro _ _ ⟨rfl, hq⟩
  rcases hq with ⟨hge, h⟩ | ⟨_, h⟩
  rotate_left
  · cases h
  injection h with h
  subst h
  rw [if_neg (by omega)] at hP
  refine AOps.nil (ARun.seq (ARun.region ?_)); refine zzm ?_; refine zzm ?_
  refine y_gop rfl (g_call rfl rfl hnum) (fun hg3 => ?_) (fun q hq => by obtain ⟨hq, rfl⟩ := hq; exact panCF (tl := rdO s (((sfx s to).1 : Nat) : Int) :: J) rfl rfl rfl (by rw [hP, if_neg hq]))
  rw [if_pos hg3] at hP
  rw [hP]
  refine zzm ?_; refine zzm ?_; refine zzm ?_
  refine y_op rfl (Zap rfl rfl rfl rfl rfl) ?_
  refine y_new rfl (Zaa rfl rfl rfl rfl rfl rfl rfl rfl (Nat.le_of_ble_eq_true rfl) rfl) ?_
  refine y_new rfl (Zad rfl rfl rfl rfl rfl rfl (Nat.le_of_ble_eq_true rfl) rfl) ?_
  refine y_new rfl (Zad rfl rfl rfl rfl rfl rfl (Nat.le_of_ble_eq_true rfl) rfl) ?_
  refine AOps.nil ?_
  refine ARun.ret ?_
  refine DC.mono (dct_ret _ 1 2) ?_
  rintro _ _ ⟨rfl, rfl⟩
  exact ⟨_, _, _, ResR.cellA rfl rfl rfl rfl rfl rfl (ResR.cell1 rfl rfl rfl rfl rfl (ResR.cell1 rfl rfl rfl rfl rfl .nil)), .cons (.same _) (.cons (.same _) (.cons (.same _) .nil)), rfl, rfl⟩
end Go.V
set_option maxHeartbeats 4000000
set_option maxRecDepth 100000
set_option synthInstance.maxSize 100000
set_option synthInstance.maxHeartbeats 2000000
namespace Go.V
open Go.RowKit Go.Proofs
abbrev P2 (n : Nat) : Int := ((2 ^ n : Nat) : Int)
theorem P2_pos (n : Nat) : 0 < P2 n := Int.natCast_pos.2 (Nat.two_pow_pos n)
theorem ln_two (n m : Nat) (h : n < 32 * m) : (lim (2 ^ n)).length ≤ m := by
  rw [ln_le_iff, B_pow]; exact Nat.pow_lt_pow_right (by decide) h
theorem fit_P2 {n : Nat} (h : n < 32768) : fitZ (P2 n) := by
  unfold fitZ; rw [Int.natAbs_natCast]; exact ln_two n 1024 (by omega)
def wrapZ (n : Nat) (s : Bool) (a : Int) : Int := bif s && decide (P2 (n - 1) ≤ a % P2 n) then a % P2 n - P2 n else a % P2 n
def wrapO (bits : Int) (s : Bool) (a : Int) : Int ⊕ Int := if 1 ≤ bits ∧ bits ≤ 4096 then .inl (wrapZ bits.toNat s a) else .inr 1
theorem natShl1 (n : Nat) (hn : n < 32768) : PC C Zi8 [.sl 1 [.int .u32 1], .int .i64 (n : Int)] (fun o => o = .ret (.tup [numD (2 ^ n), .int .i64 0])) := by
  have h := Zlo 1 n (by rw [lim_one]; decide) (by omega)
  rw [← numD_one] at h
  refine h.mono fun o ho => ?_
  have : shlR 1 n = (2 ^ n, 0) := by
    unfold shlR
    rw [if_neg (by decide), Nat.one_mul, if_pos ⟨by omega, ln_two n 1024 (by omega)⟩]
  rw [ho, this]
theorem w_sum_ok {x y : Int} (hx : fitZ x) (hy : fitZ y) (h : fitZ (x + y)) : PC C Zgx [intD x, intD y] (fun o => o = .ret (intD (x + y))) :=
  (ZbI x y hx hy).mono fun o ho => by rcases ho with ⟨_, h2⟩ | ⟨h1, _⟩; exact h2; exact absurd h h1
theorem w_div3 {a m : Int} (ha : fitZ a) (hm : fitZ m) (h0 : 0 < m) : ∃ q, PC C ZdG [intD a, intD m, .agg [.clos ZaG []]] (fun o => o = .ret (.tup [intD q, intD (a % m)])) := by
  have h := Zg6 a m ha hm (by omega) ZaG _ (fun _ => ZlZ (a.tdiv m) (a.tmod m) a m)
  rw [divW_euclid h0] at h
  exact ⟨_, h⟩
theorem fit_emod {a m : Int} (hm : fitZ m) (h0 : 0 < m) : fitZ (a % m) := by
  have h1 := Int.emod_nonneg a (show m ≠ 0 by omega)
  have h2 := Int.emod_lt_of_pos a h0
  exact fit_mono (by omega) hm
theorem wrapZ_bounds {n : Nat} {s : Bool} {a : Int} : (wrapZ n s a).natAbs ≤ (P2 n).natAbs := by
  have h0 := P2_pos n
  have h1 := Int.emod_nonneg a (show P2 n ≠ 0 by omega)
  have h2 := Int.emod_lt_of_pos a h0
  unfold wrapZ
  cases (s && decide (P2 (n - 1) ≤ a % P2 n)) <;> simp only [cond_true, cond_false] <;> omega
theorem cmp_P2 {x : Int} {k : Nat} (h0 : 0 ≤ x) : cmpI x.natAbs (2 ^ k) ≥ 0 ↔ P2 k ≤ x := by
  unfold cmpI P2
  generalize (2 : Nat) ^ k = y
  split
  · constructor <;> intro h <;> omega
  split <;> constructor <;> intro h <;> omega
theorem ZkB (a : Int) (ha : fitZ a) (bits : Int) (s : Bool) : PC C ZdE [.sptr [.int .i64 bits], capZ a, .sptr [.bool s]] (fun o => o = outZ (wrapO bits s a)) := by
  refine PC.rn Zc3 Zgo Zgp (rs := [.cell 3 27]) (by rw [Zgq]) ?_
  refine ARun.seq (ARun.region ?_)
  refine y_new rfl (Zae rfl rfl rfl rfl) ?_
  refine AOps.nil (ARun.seq (ARun.region ?_)); refine zzl ?_; refine zzi ?_; refine zzm ?_
  refine AOps.bool 9 rfl (fun g1 => ?_) (fun g1 => ?_)
  · skip
    have g1 := of_decide_eq_true g1
    refine zzl ?_; refine zzi ?_; refine zzp ?_
    refine y_gop rfl (g_call rfl rfl (PC.gp (ZaI _ 1))) (fun hg => ?_) (fun q hq => by obtain ⟨hq, rfl⟩ := hq; exact ⟨_, _, .same _, rfl, by have hq : ¬ bits ≤ 4096 := of_decide_eq_false hq; unfold wrapO; rw [if_neg (fun h => hq h.2)]; rfl⟩)
    have hg : bits ≤ 4096 := of_decide_eq_true hg
    obtain ⟨n, rfl⟩ : ∃ n : Nat, bits = (n : Int) := ⟨bits.toNat, by omega⟩
    have hO : wrapO (n : Int) s a = .inl (wrapZ n s a) := by unfold wrapO; rw [if_pos ⟨g1, hg⟩]; rfl
    rw [hO]
    have hM : fitZ (P2 n) := fit_P2 (by omega)
    have hp := P2_pos n
    obtain ⟨q, hdv⟩ := w_div3 (a := a) ha hM hp
    have hr := fit_emod (a := a) hM hp
    have hr0 := Int.emod_nonneg a (show P2 n ≠ 0 by omega)
    have hr1 := Int.emod_lt_of_pos a hp
    have hwf : fitZ (wrapZ n s a) := fit_mono wrapZ_bounds hM
    refine AOps.nil (ARun.seq (ARun.region ?_))
    refine y_op rfl (Zan rfl rfl rfl rfl rfl rfl rfl rfl rfl rfl rfl (by decide) (by decide) rfl) ?_
    refine zzl ?_
    refine zzc rfl rfl (natShl1 n (by omega)) ?_
    refine zze ?_; refine zze ?_
    refine zzc rfl rfl (Zdn (2 ^ n)) ?_
    refine zzc rfl rfl (Zaf false (2 ^ n)) ?_
    refine ZaX rfl rfl rfl rfl rfl rfl rfl rfl rfl rfl rfl ?_
    refine AOps.nil (ARun.seq ?_)
    refine ARun.drawnG (n := 11) (fun S : Nat → Bool => [cell0]) [(8, 5, 27, [.bool false, .nilsl], some (10, [.bool (decide (q < 0)), numD q.natAbs])), (9, 6, 27, [.bool false, .nilsl], none)] (fun _ => False) (sk := [(8, some 10), (9, none)]) mixC rfl rfl (by kernel_rfl) rfl (by kernel_rfl) rfl (fun _ _ _ h => h.elim) ?_
    refine DChG.op rfl (fun _ => Zbe rfl rfl rfl rfl rfl) (fun _ => rfl) rfl rfl ?_
    refine DChG.op rfl (fun _ => Zbe rfl rfl rfl rfl rfl) (fun _ => rfl) rfl rfl ?_
    refine DChG.op rfl (fun _ => q_call rfl rfl (Zh5)) (fun _ => rfl) rfl rfl ?_
    refine DChG.op rfl (fun _ => ZlY (kt := t_int) (et := ZaE) (by kernel_rfl) (by kernel_rfl) rfl rfl rfl rfl rfl (find_kind 3)) (fun _ => rfl) rfl rfl ?_
    refine DChG.op rfl (fun _ => q_call rfl rfl (hdv)) (fun _ => rfl) rfl rfl ?_
    refine DChG.op rfl (fun _ => q_move rfl) (fun _ => rfl) rfl rfl ?_
    refine DChG.op rfl (fun _ => Zai rfl rfl) (fun _ => rfl) rfl rfl ?_
    refine DChG.op rfl (fun _ => Zai rfl rfl) (fun _ => rfl) rfl rfl ?_
    refine .al rfl rfl rfl rfl (fun _ => rfl) rfl rfl rfl ?_
    refine .al rfl rfl rfl rfl (fun _ => rfl) rfl rfl rfl ?_
    refine .sp (j := 8) rfl rfl rfl rfl rfl rfl rfl (fun _ => rfl) rfl rfl rfl (by kernel_rfl) ?_
    refine .nil (fun hG => AOps.fin (n := 1) (as' := [(8, 5, 27, [.bool (decide (q < 0)), numD q.natAbs]), (9, 6, 27, [.bool false, .nilsl])]) (H' := [cell0, cellZ q, cell0]) rfl rfl rfl ?_)
    refine y_new rfl (Zaa rfl rfl rfl rfl rfl rfl rfl rfl (Nat.le_of_ble_eq_true rfl) rfl) ?_
    refine AOps.nil (ARun.seq (ARun.seq ?_))
    cases s with
    | false =>
      refine ARun.drawnP 14 (fun _ => False) mixC rfl rfl (by kernel_rfl) (fun _ _ h => h.elim) ?_
      refine .op rfl (q_load rfl rfl rfl rfl) ?_
      refine .op rfl (q_move rfl) ?_
      refine .skip rfl ?_
      refine .skip rfl ?_
      refine .skip rfl ?_
      refine .skip rfl ?_
      refine .skip rfl ?_
      refine .skip rfl ?_
      refine .skip rfl ?_
      refine .skip rfl ?_
      refine .skip rfl ?_
      refine .skip rfl ?_
      refine .skip rfl ?_
      refine .op rfl (q_pick rfl rfl rfl rfl) ?_
      refine .nil (fun hG => ?_)
      refine AOps.nil ?_
      refine ARun.condF rfl ?_
      refine ARun.skip (ARun.seq (ARun.region ?_))
      refine y_op rfl (Zab rfl rfl rfl rfl rfl rfl) ?_
      refine zzc rfl rfl (Zb5 (a % P2 n) hr) ?_
      refine y_new rfl (Zaa rfl rfl rfl rfl rfl rfl rfl rfl (Nat.le_of_ble_eq_true rfl) rfl) ?_
      refine AOps.nil ?_
      refine ARun.ret ?_
      refine ⟨_, _, _, ResR.cellA rfl rfl rfl rfl rfl rfl .nil, .cons (.same _) .nil, rfl, ?_⟩
      rfl
    | true =>
      refine ARun.drawnP 14 (fun _ => False) mixC rfl rfl (by kernel_rfl) (fun _ _ h => h.elim) ?_
      refine .op rfl (q_load rfl rfl rfl rfl) ?_
      refine .op rfl (q_move rfl) ?_
      refine .op rfl (q_fldP rfl rfl rfl (by decide)) ?_
      refine .op rfl (Zac rfl rfl rfl rfl rfl) ?_
      refine .op rfl (Zan rfl rfl rfl rfl rfl rfl rfl rfl rfl rfl rfl (by decide) (by decide) rfl) ?_
      refine .op rfl (q_load rfl rfl rfl rfl) ?_
      refine .op rfl (q_sub rfl rfl (nsub1_i64 (by omega) (by omega))) ?_
      refine .op rfl (q_call rfl rfl (natShl1 (n - 1) (by omega))) ?_
      refine .op rfl (Zai rfl rfl) ?_
      refine .op rfl (Zai rfl rfl) ?_
      refine .op rfl (q_call rfl rfl (Zdn (2 ^ (n - 1)))) ?_
      refine .op rfl (q_call rfl rfl (Zch (a % P2 n).natAbs (2 ^ (n - 1)) hr (ln_two _ _ (by omega)))) ?_
      refine .op rfl (q_int rfl rfl rfl) ?_
      refine .op rfl (q_pick rfl rfl rfl rfl) ?_
      refine .nil (fun hG => ?_)
      refine AOps.nil ?_
      refine ARun.ite rfl (fun h => ?_) (fun h => ?_)
      · skip
        have h : P2 (n - 1) ≤ a % P2 n := (cmp_P2 hr0).1 h
        have hw : wrapZ n true a = a % P2 n + -P2 n := by unfold wrapZ; rw [decide_eq_true h]; exact Int.sub_eq_add_neg
        refine ARun.drawnP 4 (fun _ => False) mixC rfl rfl (by kernel_rfl) (fun _ _ h => h.elim) ?_
        refine .op rfl (Zab rfl rfl rfl rfl rfl rfl) ?_
        refine .op rfl (Zbe rfl rfl rfl rfl rfl) ?_
        refine .op rfl (q_call rfl rfl (Zb4 (P2 n))) ?_
        refine .op rfl (q_call rfl rfl (w_sum_ok hr (fitZ_neg hM) (by rw [← hw]; exact hwf))) ?_
        refine .nil (fun hG => ?_)
        refine y_new rfl (Zaa rfl rfl rfl rfl rfl rfl rfl rfl (Nat.le_of_ble_eq_true rfl) rfl) ?_
        refine AOps.nil (ARun.seq (ARun.region ?_))
        refine y_op rfl (Zab rfl rfl rfl rfl rfl rfl) ?_
        refine zzc rfl rfl (Zb5 (a % P2 n + -P2 n) (by rw [← hw]; exact hwf)) ?_
        refine y_new rfl (Zaa rfl rfl rfl rfl rfl rfl rfl rfl (Nat.le_of_ble_eq_true rfl) rfl) ?_
        refine AOps.nil ?_
        refine ARun.ret ?_
        refine ⟨_, _, _, ResR.cellA rfl rfl rfl rfl rfl rfl .nil, .cons (.same _) .nil, rfl, ?_⟩
        rw [hw]; rfl
      have h : ¬ P2 (n - 1) ≤ a % P2 n := fun e => h ((cmp_P2 hr0).2 e)
      have hw : wrapZ n true a = a % P2 n := by unfold wrapZ; rw [decide_eq_false h]; rfl
      refine ARun.skip (ARun.seq (ARun.region ?_))
      refine y_op rfl (Zab rfl rfl rfl rfl rfl rfl) ?_
      refine zzc rfl rfl (Zb5 (a % P2 n) hr) ?_
      refine y_new rfl (Zaa rfl rfl rfl rfl rfl rfl rfl rfl (Nat.le_of_ble_eq_true rfl) rfl) ?_
      refine AOps.nil ?_
      refine ARun.ret ?_
      refine ⟨_, _, _, ResR.cellA rfl rfl rfl rfl rfl rfl .nil, .cons (.same _) .nil, rfl, ?_⟩
      rw [hw]; rfl
  have g1 := of_decide_eq_false g1
  refine zzk ?_; refine zzk ?_; refine zzp ?_
  refine y_gop rfl (g_call rfl rfl (PC.gp (ZaI _ 1))) (fun hg => by cases hg) (fun q hq => by obtain ⟨hq, rfl⟩ := hq; exact ⟨_, _, .same _, rfl, by unfold wrapO; rw [if_neg (fun h => g1 h.1)]; rfl⟩)
theorem Zma (d : Bool × List Nat) (hd : U32 d.2) (bits : Int) (s : Bool) : PC C ZcY [intA d.1 d.2, .int .i64 bits, .bool s] (fun o => o = .ret (.tup [intD (resZ ([d].all okI) (wrapO bits s (valI d))).1, .int .i64 (resZ ([d].all okI) (wrapO bits s (valI d))).2])) := by
  refine PC.rn Zea Zig Zih (rs := [.cell 6 27, .tmp 7]) (by rw [Zii]) ?_
  refine ARun.seq (ARun.region ?_); refine zzb ?_; refine zzb ?_; refine zzb ?_
  refine y_new rfl (Zae rfl rfl rfl rfl) ?_
  refine zza ?_; refine AOps.nil (ARun.seq (ARun.region ?_))
  refine y_op rfl (ZiR rfl) ?_
  refine zzL ?_
  refine y_op rfl (Zan rfl rfl rfl rfl rfl rfl rfl rfl rfl rfl rfl (by decide) (by decide) rfl) ?_
  refine zzc rfl rfl (ZjZ [d] 1 rfl ZdE [.sptr [.int .i64 bits], .sptr [.bool d.1, sln .u32 d.2], .sptr [.bool s]] rfl (wrapO bits s (valI d)) (fun h => by obtain ⟨x, rfl, f1⟩ := okI_int hd (by simpa using h); rw [valI_int]; exact ZkB x f1 bits s)) ?_
  refine zze ?_; refine zze ?_
  refine y_new rfl (Zaa rfl rfl rfl rfl rfl rfl rfl rfl (Nat.le_of_ble_eq_true rfl) rfl) ?_
  refine zza ?_; refine AOps.nil ?_
  refine ARun.ret ?_
  refine ⟨_, _, _, ResR.cellA rfl rfl rfl rfl rfl rfl (.tmp rfl .nil), .cons (.same _) (.cons (.same _) .nil), rfl, ?_⟩
  rfl
end Go.V
namespace Go.V
def sb (op : Int) (x y : Bool) : Bool := if op = 1 then x && y else if op = 2 then x || y else Bool.xor x y
def rsN (b : Bool) : Nat := bif b then 4294967295 else 0
def tw (n : Nat) (a : Int) : Nat := (a % ((B ^ n : Nat) : Int)).toNat
theorem Bn_pos (n : Nat) : 0 < B ^ n := Nat.pow_pos B_pos
theorem tw_cast (n : Nat) (a : Int) : ((tw n a : Nat) : Int) = a % ((B ^ n : Nat) : Int) := by
  have h := Bn_pos n
  have h1 := Int.emod_nonneg a (show ((B ^ n : Nat) : Int) ≠ 0 by omega)
  unfold tw; omega
def inB (n : Nat) (a : Int) : Prop := -((B ^ n : Nat) : Int) ≤ a ∧ a < ((B ^ n : Nat) : Int)
theorem inB.of {a : Int} {n : Nat} (h : (lim a.natAbs).length ≤ n) : inB n a := by
  have := ln_le_iff.1 h
  unfold inB; omega
theorem inB.tw {n : Nat} {a : Int} (h : inB n a) : ((tw n a : Nat) : Int) = a + (bif decide (a < 0) then ((B ^ n : Nat) : Int) else 0) := by
  rw [tw_cast]
  obtain ⟨h1, h2⟩ := h
  by_cases h0 : a < 0
  · rw [decide_eq_true h0, cond_true, ← Int.add_emod_right, Int.emod_eq_of_lt (by omega) (by omega)]
  rw [decide_eq_false h0, cond_false, Int.emod_eq_of_lt (by omega) h2, Int.add_zero]
theorem inB.mono {n m : Nat} {a : Int} (h : inB n a) (hm : n ≤ m) : inB m a := by
  have := Nat.pow_le_pow_right B_pos hm
  unfold inB at *; omega
theorem inB.succ {n : Nat} {a : Int} (h : inB n a) : Go.V.tw (n + 1) a = Go.V.tw n a + B ^ n * rsN (decide (a < 0)) := by
  have h1 := h.tw
  have h2 := (h.mono (show n ≤ n + 1 by omega)).tw
  have h3 : B ^ (n + 1) = B ^ n * 4294967296 := Nat.pow_succ ..
  by_cases h0 : a < 0
  · rw [decide_eq_true h0, cond_true] at *
    show _ = _ + _ * 4294967295
    omega
  rw [decide_eq_false h0, cond_false] at *
  show _ = _ + _ * 0
  omega
end Go.V
set_option maxHeartbeats 4000000
set_option maxRecDepth 100000
set_option synthInstance.maxSize 100000
set_option synthInstance.maxHeartbeats 2000000
namespace Go.V
open Go.RowKit Go.Proofs
theorem Fz.grow {B J : Heap} {e : TypeId} {cs : List D} {m : Nat} (hm : m = B.length + J.length) (hp : D.pure.pures cs = true) : ∃ ids, Fz (B ++ growT J e cs) (growD m cs) (.sl cs.length cs) ids := by
  subst hm
  cases cs with
  | nil => exact ⟨_, .nil⟩
  | cons c cs =>
    refine ⟨_, Fz.row (o := ⟨c :: cs, e, 1, true, none⟩) ?_ hp⟩
    show (B ++ (J ++ [_]))[B.length + J.length]? = _
    rw [List.getElem?_append_right (by omega), Nat.add_sub_cancel_left, List.getElem?_append_right (Nat.le_refl _), Nat.sub_self]
    rfl
end Go.V
set_option maxHeartbeats 4000000
set_option maxRecDepth 100000
set_option synthInstance.maxSize 100000
set_option synthInstance.maxHeartbeats 2000000
namespace Go.V
open Go.RowKit Go.Proofs
theorem valid_lim {n : Nat} (hl : (lim n).length ≤ 1024) : PC C ZgE [numD n] (fun o => o = .ret (.bool true)) :=
  (Zb1 (lim n) inferInstance).mono fun o ho => by rw [ho, decide_eq_true (show okNat (lim n) from ⟨hl, Canon_lim n⟩)]
end Go.V
set_option maxHeartbeats 8000000
set_option maxRecDepth 100000
set_option synthInstance.maxSize 100000
set_option synthInstance.maxHeartbeats 2000000
namespace Go.V
open Go.RowKit Go.Proofs
end Go.V
set_option maxHeartbeats 4000000
set_option maxRecDepth 100000
set_option synthInstance.maxSize 100000
set_option synthInstance.maxHeartbeats 2000000
namespace Go.V
open Go.RowKit Go.Proofs
end Go.V
namespace Go.V
end Go.V
set_option maxHeartbeats 4000000
set_option maxRecDepth 100000
set_option synthInstance.maxSize 100000
set_option synthInstance.maxHeartbeats 2000000
namespace Go.V
open Go.RowKit Go.Proofs
end Go.V
set_option maxHeartbeats 8000000
set_option maxRecDepth 100000
set_option synthInstance.maxSize 100000
set_option synthInstance.maxHeartbeats 2000000
namespace Go.V
open Go.RowKit Go.Proofs
end Go.V
set_option maxHeartbeats 8000000
set_option maxRecDepth 100000
set_option synthInstance.maxSize 100000
set_option synthInstance.maxHeartbeats 2000000
namespace Go.V
open Go.RowKit Go.Proofs
abbrev Ca := List Nat × Int × Bool × Int
abbrev caD (e : Ca) : D := .agg [sln .u32 e.1, .int .i64 e.2.1, .bool e.2.2.1, .int .i64 e.2.2.2]
def baseP (e : Ca) : Prop := e.2.1 = 2 ∨ e.2.1 = 8 ∨ e.2.1 = 16 ∨ e.2.1 = 10 ∧ 0 < e.1.length
instance (e : Ca) : Decidable (baseP e) := by unfold baseP; infer_instance
def okC (e : Ca) : Bool := okB e.1 && decide (baseP e ∧ 0 ≤ e.2.2.2 ∧ e.2.2.2 ≤ 2)
theorem okC_T {e : Ca} (h : okB e.1 = true) (h2 : baseP e ∧ 0 ≤ e.2.2.2 ∧ e.2.2.2 ≤ 2) : okC e = true := by unfold okC; rw [h, decide_eq_true h2]; rfl
theorem okC_F {e : Ca} (h : okB e.1 = true → ¬ (baseP e ∧ 0 ≤ e.2.2.2 ∧ e.2.2.2 ≤ 2)) : okC e = false := by
  unfold okC
  cases hb : okB e.1
  · rfl
  rw [decide_eq_false (h hb)]; rfl
theorem Zey (e : Ca) : PC C Zfl [caD e] (fun o => o = .ret (.bool (okC e))) := by
  obtain ⟨xs, base, u, n⟩ := e
  have hbp : baseP (xs, base, u, n) = (base = 2 ∨ base = 8 ∨ base = 16 ∨ base = 10 ∧ 0 < xs.length) := rfl
  refine PC.rn Zb7 ZeA ZeB (rs := [.tmp 2]) (by rw [ZeC]) ?_
  refine ARun.seq (ARun.region ?_); refine zzb ?_; refine zza ?_; refine AOps.nil (ARun.seq ?_)
  refine ARun.join (S := Bool) (fun v : Bool => [(4, .any), (5, .any), (6, .any), (7, .any), (8, .any), (9, .any), (10, .any), (11, .any), (12, .any), (13, .any), (14, .any), (15, .any), (16, .any), (17, .any), (18, .any), (19, .any), (20, .any), (21, .any), (22, .any), (23, .any), (24, .any), (25, .any), (26, .any), (27, .any), (3, .bool v)]) (fun v : Bool => v = decide (baseP (xs, base, u, n))) (fun run => ?_) ?_
  · skip
    refine ARun.region ?_; refine zzf ?_; refine zzl ?_; refine zzi ?_; refine zzm ?_
    refine AOps.bool 7 rfl (fun c2 => ?_) (fun c2 => ?_)
    · skip
      have c2 : base = 2 := of_decide_eq_true c2
      refine zzk ?_; refine zzk ?_; refine zzk ?_; refine zzp ?_; refine zzm ?_; refine zzk ?_; refine zzk ?_; refine zzk ?_; refine zzp ?_; refine zzm ?_; refine zzk ?_; refine zzk ?_; refine zzk ?_; refine zzk ?_; refine zzk ?_; refine zzk ?_; refine zzk ?_; refine zzk ?_; refine zzk ?_; refine zzp ?_; refine zza ?_; refine AOps.nil ?_
      exact ARun.ag (run (true) ((decide_eq_true (.inl c2)).symm))
    have c2 : ¬ base = 2 := of_decide_eq_false c2
    refine zzf ?_; refine zzl ?_; refine zzi ?_; refine zzp ?_; refine zzm ?_
    refine AOps.bool 12 rfl (fun c8 => ?_) (fun c8 => ?_)
    · skip
      have c8 : base = 8 := of_decide_eq_true c8
      refine zzk ?_; refine zzk ?_; refine zzk ?_; refine zzp ?_; refine zzm ?_; refine zzk ?_; refine zzk ?_; refine zzk ?_; refine zzk ?_; refine zzk ?_; refine zzk ?_; refine zzk ?_; refine zzk ?_; refine zzk ?_; refine zzp ?_; refine zza ?_; refine AOps.nil ?_
      exact ARun.ag (run (true) ((decide_eq_true (.inr (.inl c8))).symm))
    have c8 : ¬ base = 8 := of_decide_eq_false c8
    refine zzf ?_; refine zzl ?_; refine zzi ?_; refine zzp ?_; refine zzm ?_
    refine AOps.bool 17 rfl (fun c16 => ?_) (fun c16 => ?_)
    · skip
      have c16 : base = 16 := of_decide_eq_true c16
      refine zzk ?_; refine zzk ?_; refine zzk ?_; refine zzk ?_; refine zzk ?_; refine zzk ?_; refine zzk ?_; refine zzk ?_; refine zzk ?_; refine zzp ?_; refine zza ?_; refine AOps.nil ?_
      exact ARun.ag (run (true) ((decide_eq_true (.inr (.inr (.inl c16)))).symm))
    have c16 : ¬ base = 16 := of_decide_eq_false c16
    refine zzf ?_; refine zzl ?_; refine zzi ?_; refine zzm ?_
    refine AOps.bool 21 rfl (fun c10 => ?_) (fun c10 => ?_)
    · skip
      have c10 : base = 10 := of_decide_eq_true c10
      refine zzf ?_; refine zzl ?_; refine zzN ?_; refine zzi ?_; refine zzp ?_; refine zzp ?_; refine zza ?_; refine AOps.nil ?_
      exact ARun.ag (run (decide (((xs.length : Nat) : Int) > 0)) (decide_eq_decide.2 (by rw [hbp]; omega)))
    have c10 : ¬ base = 10 := of_decide_eq_false c10
    refine zzk ?_; refine zzk ?_; refine zzk ?_; refine zzk ?_; refine zzp ?_; refine zzp ?_; refine zza ?_; refine AOps.nil ?_
    exact ARun.ag (run (false) ((decide_eq_false (by rw [hbp]; omega)).symm))
  rintro v hj
  try dsimp only at hj ⊢
  refine ARun.seq (ARun.region ?_); refine zzf ?_; refine zzl ?_
  refine zzc rfl rfl (Zb1 xs inferInstance) ?_
  refine zzm ?_
  refine AOps.bool 31 rfl (fun k1 => ?_) (fun k1 => ?_)
  · skip
    have k1 : okB xs = true := k1
    refine zzm ?_; refine zzp ?_; refine zzm ?_
    refine AOps.bool 34 rfl (fun k2 => ?_) (fun k2 => ?_)
    · skip
      rw [k2] at hj
      have k2 := of_decide_eq_true hj.symm
      refine zzf ?_; refine zzl ?_; refine zzi ?_; refine zzp ?_; refine zzm ?_
      refine AOps.bool 39 rfl (fun k3 => ?_) (fun k3 => ?_)
      · skip
        have k3 : 0 ≤ n := of_decide_eq_true k3
        refine zzf ?_; refine zzl ?_; refine zzi ?_; refine zzp ?_; refine zza ?_; refine AOps.nil ?_
        refine ARun.ret ?_
        refine ⟨_, _, _, .tmp rfl .nil, .cons (.same _) .nil, rfl, ?_⟩
        rw [show okC (xs, base, u, n) = decide (n ≤ 2) by
          by_cases h : n ≤ 2
          · rw [decide_eq_true h]; exact okC_T k1 ⟨k2, k3, h⟩
          rw [decide_eq_false h]; exact okC_F fun _ h2 => h h2.2.2]
        rfl
      have k3 : ¬ (0 ≤ n) := of_decide_eq_false k3
      refine zzk ?_; refine zzk ?_; refine zzk ?_; refine zzp ?_; refine zza ?_; refine AOps.nil ?_
      refine ARun.ret ?_
      refine ⟨_, _, _, .tmp rfl .nil, .cons (.same _) .nil, rfl, ?_⟩
      rw [okC_F fun _ h => k3 h.2.1]; rfl
    rw [k2] at hj
    have k2 := of_decide_eq_false hj.symm
    refine zzk ?_; refine zzk ?_; refine zzk ?_; refine zzp ?_; refine zzm ?_; refine zzk ?_; refine zzk ?_; refine zzk ?_; refine zzp ?_; refine zza ?_; refine AOps.nil ?_
    refine ARun.ret ?_
    refine ⟨_, _, _, .tmp rfl .nil, .cons (.same _) .nil, rfl, ?_⟩
    rw [okC_F fun _ h => k2 h.1]; rfl
  have k1 : okB xs = false := k1
  refine zzk ?_; refine zzp ?_; refine zzm ?_; refine zzk ?_; refine zzk ?_; refine zzk ?_; refine zzp ?_; refine zzm ?_; refine zzk ?_; refine zzk ?_; refine zzk ?_; refine zzp ?_; refine zza ?_; refine AOps.nil ?_
  refine ARun.ret ?_
  refine ⟨_, _, _, .tmp rfl .nil, .cons (.same _) .nil, rfl, ?_⟩
  rw [okC_F fun h => by have h : okB xs = true := h; rw [k1] at h; cases h]; rfl
theorem okC_val {xs : List Nat} {base n : Int} {u : Bool} (hu : U32 xs) (h : okC (xs, base, u, n) = true) : ∃ (a b m : Nat), xs = lim a ∧ base = (b : Int) ∧ n = (m : Int) ∧ (lim a).length ≤ 1024 ∧ m ≤ 2 ∧ (b = 2 ∨ b = 8 ∨ b = 16 ∨ b = 10 ∧ 0 < a) := by
  unfold okC at h
  rw [Bool.and_eq_true, decide_eq_true_eq] at h
  obtain ⟨h1, h2, h3, h4⟩ := h
  obtain ⟨a, ha, hl⟩ := okNat_lim hu h1
  dsimp only at ha h3 h4
  subst ha
  have hbp : baseP (lim a, base, u, n) = (base = 2 ∨ base = 8 ∨ base = 16 ∨ base = 10 ∧ 0 < (lim a).length) := rfl
  rw [hbp] at h2
  refine ⟨a, base.toNat, n.toNat, rfl, by omega, by omega, hl, by omega, ?_⟩
  rcases h2 with h2 | h2 | h2 | ⟨h2, h5⟩
  · omega
  · omega
  · omega
  refine .inr (.inr (.inr ⟨by omega, ?_⟩))
  rcases Nat.eq_zero_or_pos a with h0 | h0
  · subst h0; rw [lim_zero] at h5; cases h5
  exact h0
def preL (b a : Nat) : List Nat := if b = 16 then [48, 120] else if b = 2 then [48, 98] else if b = 8 ∧ a ≠ 0 then [48] else []
def uL (u : Bool) : List Nat := bif u then [85] else []
def printL (a b : Nat) (u : Bool) (n : Nat) : List Nat := preL b a ++ txt b a ++ uL u ++ List.replicate n 76
def printR (e : Ca) : List Nat × Int := bif okC e then (printL (val e.1) e.2.1.toNat e.2.2.1 e.2.2.2.toNat, 0) else ([], 1)
theorem txt_ne (a : Nat) : (!((bytesOf (txt 8 a)).toList == (⟨#[48]⟩ : ByteArray).toList)) = decide (a ≠ 0) := by
  rw [ByteArray.toList_eq, ByteArray.toList_eq]
  by_cases h : a = 0
  · subst h; rfl
  rw [decide_eq_true h, Bool.not_eq_true', beq_eq_false_iff_ne]
  intro h2
  have h4 : sby (bytesOf (txt 8 a)) = [48] := congrArg (List.map (fun c : UInt8 => c.toNat)) h2
  have hl := digs_lt (b := 8) (by decide) a
  rw [sby_bytesOf (by
    rw [txt_digs]; intro c hc
    obtain ⟨d, hd, rfl⟩ := List.mem_map.1 hc
    exact fig_lt (by have := hl d hd; omega))] at h4
  have h5 : (txt 8 a).map digV = digs 8 a := by
    rw [txt_digs, List.map_map]
    conv => rhs; rw [← List.map_id (digs 8 a)]
    apply List.map_congr_left
    intro d hd
    exact digV_fig (by have := hl d hd; omega)
  rw [h4] at h5
  have h6 := digs_nv (b := 8) (by decide) a
  rw [← h5] at h6
  exact h (h6.symm.trans (by decide))
theorem ll_cut : ∀ n, n ≤ 2 → ByteArray.extract ⟨#[76, 76]⟩ 0 n = bytesOf (List.replicate n 76)
  | 0, _ => rfl
  | 1, _ => rfl
  | 2, _ => rfl
  | n + 3, h => by omega
theorem pre_le (b a : Nat) : (preL b a).length ≤ 2 := by unfold preL; (repeat' split) <;> decide
theorem uL_le (u : Bool) : (uL u).length ≤ 1 := by cases u <;> decide
theorem ZkC (e : Ca) (hu : U32 e.1) : PC C Zdx [caD e] (fun o => o = .ret (.tup [.str (bytesOf (printR e).1), .int .i64 (printR e).2])) := by
  obtain ⟨xs, base, u, k⟩ := e
  show PC C Zdx [.agg [sln .u32 xs, .int .i64 base, .bool u, .int .i64 k]] (fun o => o = .ret (.tup [.str (bytesOf (printR (xs, base, u, k)).1), .int .i64 (printR (xs, base, u, k)).2]))
  replace hu : U32 xs := hu
  refine PC.rn ZcW Zf9 Zga (rs := [.tmp 2, .tmp 3]) (by rw [Zgb]) ?_
  refine ARun.seq (ARun.region ?_); refine zzb ?_; refine zza ?_; refine zza ?_; refine AOps.nil (ARun.seq (ARun.seq (ARun.region ?_))); refine zzL ?_
  refine zzc rfl rfl (Zey (xs, base, u, k)) ?_
  refine zzn ?_; refine AOps.nil ?_
  refine ARun.cond rfl (fun h1 => ?_) (fun h1 => ?_)
  · skip
    have h1 : okC (xs, base, u, k) = false := by simpa using h1
    refine ARun.seq (ARun.region ?_); refine zza ?_; refine zza ?_; refine AOps.nil ?_
    refine ARun.ret ?_
    refine ⟨_, _, _, .tmp rfl (.tmp rfl .nil), .cons (.same _) (.cons (.same _) .nil), rfl, ?_⟩
    unfold printR; rw [h1]; rfl
  have h1 : okC (xs, base, u, k) = true := by simpa using h1
  obtain ⟨a, b, n, rfl, rfl, rfl, ha, hn, hb⟩ := okC_val hu h1
  have hR : printR (lim a, (b : Int), u, (n : Int)) = (printL a b u n, 0) := by
    unfold printR; rw [h1, cond_true]; dsimp only; rw [val_lim, Int.toNat_natCast, Int.toNat_natCast]
  rw [hR]
  clear hR
  have hb2 : 2 ≤ b := by omega
  have hb36 : b ≤ 36 := by omega
  have hlen := txt_len hb2 ha
  have hpre := pre_le b a
  have huL := uL_le u
  refine ARun.skip (ARun.seq (ARun.region ?_)); refine zzf ?_; refine zzl ?_; refine zzf ?_; refine zzl ?_
  refine zzc rfl rfl (Zj0 a b ha hb2 hb36) ?_
  refine zza ?_; refine AOps.nil (ARun.seq ?_)
  refine ARun.join (S := List Nat) (fun l : List Nat => [(13, .any), (14, .any), (15, .any), (16, .any), (17, .any), (18, .any), (19, .any), (20, .any), (21, .any), (22, .any), (23, .any), (24, .any), (25, .any), (26, .any), (27, .any), (28, .any), (29, .any), (30, .any), (31, .any), (32, .any), (33, .any), (34, .any), (4, .str (bytesOf l))]) (fun l : List Nat => l = preL b a ++ txt b a) (fun run => ?_) ?_
  · skip
    refine ARun.block (ARun.seq (ARun.region ?_)); refine zzf ?_; refine zzl ?_; refine zzi ?_; refine zza ?_; refine AOps.nil ?_
    refine ARun.cond rfl (fun c16 => ?_) (fun c16 => ?_)
    · skip
      have c16 : b = 16 := by have := of_decide_eq_true c16; omega
      refine ARun.region ?_; refine zzm ?_
      refine y_op rfl (OpQ.cast (Zdm rfl rfl (by rw [bytesOf_size]; show 2 + _ ≤ _; omega)) (congrArg D.str (bytesOf_append [48, 120] _).symm)) ?_
      refine zza ?_; refine AOps.nil (ARun.inBlock ?_)
      exact ARun.ag (run ([48, 120] ++ txt b a) (by rw [show preL b a = [48, 120] from if_pos c16]))
    have c16 : ¬ b = 16 := by have := of_decide_eq_false c16; omega
    refine ARun.seq (ARun.region ?_); refine zzf ?_; refine zzl ?_; refine zzi ?_; refine zza ?_; refine AOps.nil ?_
    refine ARun.cond rfl (fun c2 => ?_) (fun c2 => ?_)
    · skip
      have c2 : b = 2 := by have := of_decide_eq_true c2; omega
      refine ARun.region ?_; refine zzm ?_
      refine y_op rfl (OpQ.cast (Zdm rfl rfl (by rw [bytesOf_size]; show 2 + _ ≤ _; omega)) (congrArg D.str (bytesOf_append [48, 98] _).symm)) ?_
      refine zza ?_; refine AOps.nil (ARun.inBlock ?_)
      exact ARun.ag (run ([48, 98] ++ txt b a) (by unfold preL; rw [if_neg c16, if_pos c2]))
    have c2 : ¬ b = 2 := by have := of_decide_eq_false c2; omega
    refine ARun.seq (ARun.region ?_); refine zzf ?_; refine zzl ?_; refine zzi ?_; refine zzm ?_
    refine AOps.bool 29 rfl (fun c8 => ?_) (fun c8 => ?_)
    · skip
      have c8 : b = 8 := by have := of_decide_eq_true c8; omega
      subst c8
      refine zzm ?_
      refine y_op rfl (OpQ.cast (ZmG rfl rfl) (congrArg D.bool (txt_ne a))) ?_
      refine zzp ?_; refine zza ?_; refine AOps.nil ?_
      refine ARun.ite rfl (fun z => ?_) (fun z => ?_)
      · skip
        refine ARun.region ?_; refine zzm ?_
        refine y_op rfl (OpQ.cast (Zdm rfl rfl (by rw [bytesOf_size]; show 1 + _ ≤ _; omega)) (congrArg D.str (bytesOf_append [48] _).symm)) ?_
        refine zza ?_; refine AOps.nil (ARun.inBlock ?_)
        exact ARun.ag (run ([48] ++ txt 8 a) (by unfold preL; rw [if_neg (by decide), if_neg (by decide), if_pos ⟨rfl, z⟩]))
      refine ARun.skip (ARun.inBlock ?_)
      exact ARun.ag (run (txt 8 a) (by unfold preL; rw [if_neg (by decide), if_neg (by decide), if_neg (fun h => z h.2)]; rfl))
    have c8 : ¬ b = 8 := by have := of_decide_eq_false c8; omega
    refine zzk ?_; refine zzk ?_; refine zzp ?_; refine zza ?_; refine AOps.nil ?_
    refine ARun.condF rfl ?_
    refine ARun.skip (ARun.inBlock ?_)
    exact ARun.ag (run (txt b a) (by unfold preL; rw [if_neg c16, if_neg c2, if_neg (fun h => c8 h.1)]; rfl))
  rintro l hj
  try dsimp only at hj ⊢
  subst hj
  refine ARun.seq (ARun.seq (ARun.region ?_)); refine zzf ?_; refine zzl ?_; refine AOps.nil ?_
  refine ARun.join (S := List Nat) (fun l : List Nat => [(37, .any), (38, .any), (4, .str (bytesOf l))]) (fun l : List Nat => l = preL b a ++ txt b a ++ uL u) (fun run => ?_) ?_
  · skip
    refine ARun.cond rfl (fun cu => ?_) (fun cu => ?_)
    · skip
      obtain rfl : u = true := cu
      refine ARun.region ?_; refine zzm ?_
      refine y_op rfl (OpQ.cast (Zdm rfl rfl (by rw [bytesOf_size, List.length_append]; show _ + 1 ≤ _; omega)) (congrArg D.str (bytesOf_append _ [85]).symm)) ?_
      refine zza ?_; refine AOps.nil ?_
      exact ARun.ag (run (preL b a ++ txt b a ++ [85]) (rfl))
    obtain rfl : u = false := cu
    refine ARun.skip ?_
    exact ARun.ag (run (preL b a ++ txt b a) ((List.append_nil _).symm))
  rintro l hj
  try dsimp only at hj ⊢
  subst hj
  refine ARun.seq (ARun.region ?_); refine zzm ?_; refine zzf ?_; refine zzl ?_
  refine y_op rfl (OpQ.cast (Zh2 (lo := 0) (hi := n) rfl rfl rfl (bnd_nat rfl rfl) (Nat.zero_le _) (by show n ≤ 2; exact hn)) (congrArg D.str (ll_cut n hn))) ?_
  refine y_op rfl (OpQ.cast (Zdm rfl rfl (by rw [bytesOf_size, bytesOf_size, List.length_append, List.length_append, List.length_replicate]; omega)) (congrArg D.str (bytesOf_append _ _).symm)) ?_
  refine zza ?_; refine zza ?_; refine AOps.nil ?_
  refine ARun.ret ?_
  refine ⟨_, _, _, .tmp rfl (.tmp rfl .nil), .cons (.same _) (.cons (.same _) .nil), rfl, ?_⟩
  rfl
end Go.V
namespace Go.V
def atL (l : List Nat) (x : ByteArray) : Bool := match l with
  | [] => false
  | c :: _ => decide (UInt8.ofNat c ∈ x.data.toList)
theorem isAt_L (s : ByteArray) (i : Nat) (x : ByteArray) : isAt s i x = atL ((sby s).drop i) x := by
  unfold isAt
  rcases Nat.lt_or_ge i s.size with h | h
  · rw [drop_at h, decide_eq_true h]; rfl
  rw [drop_end h, decide_eq_false (show ¬ i < s.size by omega)]; rfl
def lenL (l : List Nat) : Nat := bif atL l sL1 then (bif atL (l.drop 1) sL1 then 2 else 1) else bif atL l sL2 then (bif atL (l.drop 1) sL2 then 2 else 1) else 0
theorem lenA_L (s : ByteArray) (p : Nat) : lenA s p = lenL ((sby s).drop p) := by
  unfold lenA lenL
  rw [isAt_L, isAt_L, isAt_L, isAt_L, List.drop_drop]
def sfL (l : List Nat) : Nat × Bool × Nat :=
  (bN (atL l sU) + lenL (l.drop (bN (atL l sU))) + bN (!atL l sU && atL (l.drop (bN (atL l sU) + lenL (l.drop (bN (atL l sU))))) sU),
    atL l sU || atL (l.drop (bN (atL l sU) + lenL (l.drop (bN (atL l sU))))) sU, lenL (l.drop (bN (atL l sU))))
theorem sfx_L (s : ByteArray) (p : Nat) : sfx s p = (p + (sfL ((sby s).drop p)).1, (sfL ((sby s).drop p)).2) := by
  unfold sfx sfL
  simp only [isAt_L, lenA_L, List.drop_drop, Nat.add_assoc]
theorem at_two {l : List Nat} {i : Nat} {c d : UInt8} (hl : ∀ x ∈ l, x < 256) (h : atL (l.drop i) ⟨#[c, d]⟩ = true) : i < l.length ∧ (l.getD i 0 = c.toNat ∨ l.getD i 0 = d.toNat) := by
  rcases Nat.lt_or_ge i l.length with g | g
  · refine ⟨g, ?_⟩
    have hx := hl l[i] (List.getElem_mem g)
    rw [List.drop_eq_getElem_cons g] at h
    have h := of_decide_eq_true h
    rw [List.getD_eq_getElem?_getD, List.getElem?_eq_getElem g]
    show l[i] = _ ∨ l[i] = _
    have h : UInt8.ofNat l[i] ∈ [c, d] := h
    rw [List.mem_cons, List.mem_singleton] at h
    have e : (UInt8.ofNat l[i]).toNat = l[i] := by rw [UInt8.toNat_ofNat']; omega
    rcases h with h | h
    · left; rw [← e, h]
    right; rw [← e, h]
  rw [List.drop_eq_nil_of_le g] at h; cases h
theorem at_one {l : List Nat} {i : Nat} {c : UInt8} (hl : ∀ x ∈ l, x < 256) (h : atL (l.drop i) ⟨#[c]⟩ = true) : i < l.length ∧ l.getD i 0 = c.toNat := by
  have h2 : atL (l.drop i) ⟨#[c, c]⟩ = true := by
    cases hd : l.drop i with
    | nil => rw [hd] at h; cases h
    | cons x r =>
      rw [hd] at h
      have h := of_decide_eq_true h
      have h : UInt8.ofNat x ∈ [c] := h
      exact decide_eq_true (show UInt8.ofNat x ∈ [c, c] from List.mem_cons_of_mem _ h)
  obtain ⟨h3, h4⟩ := at_two hl h2
  exact ⟨h3, h4.elim id id⟩
def sufC (c : Nat) : Prop := c = 85 ∨ c = 117 ∨ c = 76 ∨ c = 108
theorem len_suf {l : List Nat} (hl : ∀ x ∈ l, x < 256) (i : Nat) : ∀ j, j < lenL (l.drop i) → i + j < l.length ∧ sufC (l.getD (i + j) 0) := by
  intro j hj
  unfold lenL at hj
  rw [List.drop_drop] at hj
  cases h1 : atL (l.drop i) sL1
  · rw [h1, cond_false] at hj
    cases h2 : atL (l.drop i) sL2
    · rw [h2, cond_false] at hj; omega
    have k1 := at_one hl h2
    have e : (76 : UInt8).toNat = 76 := rfl
    rw [h2, cond_true] at hj
    cases h3 : atL (l.drop (i + 1)) sL2
    · rw [h3, cond_false] at hj
      obtain rfl : j = 0 := by omega
      exact ⟨k1.1, .inr (.inr (.inl (k1.2.trans e)))⟩
    have k2 := at_one hl h3
    rw [h3, cond_true] at hj
    rcases (show j = 0 ∨ j = 1 by omega) with rfl | rfl
    · exact ⟨k1.1, .inr (.inr (.inl (k1.2.trans e)))⟩
    exact ⟨k2.1, .inr (.inr (.inl (k2.2.trans e)))⟩
  have k1 := at_one hl h1
  have e : (108 : UInt8).toNat = 108 := rfl
  rw [h1, cond_true] at hj
  cases h3 : atL (l.drop (i + 1)) sL1
  · rw [h3, cond_false] at hj
    obtain rfl : j = 0 := by omega
    exact ⟨k1.1, .inr (.inr (.inr (k1.2.trans e)))⟩
  have k2 := at_one hl h3
  rw [h3, cond_true] at hj
  rcases (show j = 0 ∨ j = 1 by omega) with rfl | rfl
  · exact ⟨k1.1, .inr (.inr (.inr (k1.2.trans e)))⟩
  exact ⟨k2.1, .inr (.inr (.inr (k2.2.trans e)))⟩
theorem sf_suf {l : List Nat} (hl : ∀ x ∈ l, x < 256) : ∀ j, j < (sfL l).1 → sufC (l.getD j 0) := by
  intro j hj
  unfold sfL at hj
  dsimp only at hj
  have e1 : (117 : UInt8).toNat = 117 := rfl
  have e2 : (85 : UInt8).toNat = 85 := rfl
  rcases Nat.lt_or_ge j (bN (atL l sU)) with g | g
  · cases h : atL l sU
    · rw [h] at g; exact absurd g (Nat.not_lt_zero _)
    rw [h] at g
    obtain rfl : j = 0 := by have : bN true = 1 := rfl; omega
    rcases (at_two (i := 0) hl h).2 with h | h
    · exact .inr (.inl (h.trans e1))
    exact .inl (h.trans e2)
  rcases Nat.lt_or_ge j (bN (atL l sU) + lenL (l.drop (bN (atL l sU)))) with g2 | g2
  · have := (len_suf hl (bN (atL l sU)) (j - bN (atL l sU)) (by omega)).2
    rw [show bN (atL l sU) + (j - bN (atL l sU)) = j by omega] at this
    exact this
  generalize hk : bN (atL l sU) + lenL (l.drop (bN (atL l sU))) = k at *
  cases h : (!atL l sU && atL (l.drop k) sU)
  · rw [h] at hj; have : bN false = 0 := rfl; omega
  rw [h] at hj
  obtain rfl : j = k := by have : bN true = 1 := rfl; omega
  rw [Bool.and_eq_true] at h
  rcases (at_two hl h.2).2 with h | h
  · exact .inr (.inl (h.trans e1))
  exact .inl (h.trans e2)
theorem dqs_run {b : Nat} (hb : b ≤ 36) : ∀ (D S : List Nat) (q : Bool), (∀ c ∈ D, digV c < b) → (D ≠ [] ∨ q = false) → (∀ c r, S = c :: r → ¬ digV c < b ∧ c ≠ 39) → dqs b q (D ++ S) = (D.map digV, D.length, true)
  | [], S, q, _, hq, hS => by
    obtain rfl : q = false := by rcases hq with h | h; exact absurd rfl h; exact h
    rw [List.nil_append]
    cases S with
    | nil => rw [dqs]; rfl
    | cons c r =>
      obtain ⟨h1, h2⟩ := hS c r rfl
      rw [dqs, if_neg h1, if_neg (fun h => h2 h.1)]; rfl
  | c :: D, S, q, hD, _, hS => by
    rw [List.cons_append, dqs, if_pos (hD c (List.mem_cons_self ..)), dqs_run hb D S false (fun x hx => hD x (List.mem_cons_of_mem _ hx)) (.inr rfl) hS]
    rfl
theorem dqs_split {b : Nat} (hb : b ≤ 36) : ∀ (l : List Nat) (q : Bool), (dqs b q l).2.2 = true → ∃ D : List Nat, (l.take (dqs b q l).2.1).filter (fun c => decide (c ≠ 39)) = D ∧ (∀ c ∈ D, digV c < b) ∧ D.map digV = (dqs b q l).1 ∧ (q = true → ∃ c r r', l = c :: r ∧ D = c :: r') ∧
    (∀ c r, l.drop (dqs b q l).2.1 = c :: r → ¬ digV c < b ∧ c ≠ 39)
  | [], q, h => by
    rw [dqs] at h ⊢
    refine ⟨[], rfl, fun _ h => (by cases h), rfl, fun hq => ?_, fun c r hc => by cases hc⟩
    subst hq; cases h
  | c :: l, q, h => by
    have d39 : digV 39 = 36 := by decide
    rw [dqs] at h ⊢
    split at h
    · rename_i hd
      rw [if_pos hd]
      obtain ⟨D, h1, h2, h3, _, h5⟩ := dqs_split hb l false h
      have hc : c ≠ 39 := by rintro rfl; omega
      refine ⟨c :: D, ?_, ?_, ?_, fun _ => ⟨c, l, D, rfl, rfl⟩, ?_⟩
      · show List.filter _ (c :: l.take _) = _
        rw [List.filter_cons_of_pos (by simpa using hc), h1]
      · intro x hx
        rcases List.mem_cons.1 hx with rfl | hx
        · exact hd
        exact h2 x hx
      · rw [List.map_cons, h3]
      exact h5
    rename_i hd
    split at h
    · rename_i hm
      rw [if_neg hd, if_pos hm]
      obtain ⟨rfl, rfl⟩ := hm
      obtain ⟨D, h1, h2, h3, _, h5⟩ := dqs_split hb l true h
      refine ⟨D, ?_, h2, h3, fun h => (by cases h), h5⟩
      show List.filter _ (39 :: l.take _) = _
      rw [List.filter_cons_of_neg (by simp), h1]
    rename_i hm
    rw [if_neg hd, if_neg hm]
    have hq : q = false := by simpa using h
    refine ⟨[], rfl, fun _ h => (by cases h), rfl, fun h => (by rw [hq] at h; cases h), ?_⟩
    intro x r hx
    have hx : c :: l = x :: r := hx
    injection hx with e1 e2
    subst e1
    exact ⟨hd, fun e => hm ⟨e, hq⟩⟩
theorem parseC_ok {s : ByteArray} (h : (parseC s).2.1 = 0) : s.size ≤ 20000 ∧ (dqA (bF s).1 s true (bF s).2).2.2 = true ∧ s.size ≤ (sfx s ((bF s).2 + (dqA (bF s).1 s true (bF s).2).2.1)).1 ∧ (lim (nv (bF s).1 (dqA (bF s).1 s true (bF s).2).1)).length ≤ 1024 ∧
    parseC s = ((nv (bF s).1 (dqA (bF s).1 s true (bF s).2).1, (bF s).1, (sfx s ((bF s).2 + (dqA (bF s).1 s true (bF s).2).2.1)).2), 0, 0) := by
  unfold parseC at h ⊢
  split at h
  · cases h
  rename_i h1
  split at h
  · cases h
  rename_i h2
  split at h
  · cases h
  rename_i h3
  split at h
  · rename_i h4
    refine ⟨by omega, by simpa using h2, by omega, h4, ?_⟩
    rw [if_neg h1, if_neg h2, if_neg h3, if_pos h4]
  cases h
end Go.V
/- TABLES OF THE PROGRAM; an element of an array of structs; equality of structs. -/
namespace Go.V
open Go.RowKit
theorem HC.gl {P : Program} {gl : List (Nat × List D)} {ty : TypeId → Option TE} {ok : ∀ t te, ty t = some te → TEok P t te} {f : FuncId} {H : Heap} {args : List D} {R : Out → Heap → Prop} (h : HC ⟨P, [], ty, ok⟩ f H args R) : HC ⟨P, gl, ty, ok⟩ f H args R := by
  refine ⟨h.1, fun L0 w μ vs hs ha => ?_⟩
  refine (h.2 L0 w μ vs ⟨hs.len, hs.obj, hs.inj, hs.own, hs.lim, fun g cs hg => by cases hg⟩ ha).mono fun e w' hfin => ?_
  obtain ⟨o, H1, μ1, h1, s1, h3, h4⟩ := hfin
  refine ⟨o, H1, μ1, h1, ⟨s1.len, s1.obj, s1.inj, s1.own, s1.lim, fun g cs hg => ?_⟩, h3, h4⟩
  obtain ⟨g1, g2, g3⟩ := hs.glob g cs hg
  have st := h4.step L0
  exact ⟨Nat.lt_of_lt_of_le g1 st.size, st.keep g g1 g2, VRL.step st.pure g1 g2 g3⟩
theorem PC.gl {P : Program} {gl : List (Nat × List D)} {ty : TypeId → Option TE} {ok : ∀ t te, ty t = some te → TEok P t te} {f : FuncId} {args : List D} {r : Out → Prop} (h : PC ⟨P, [], ty, ok⟩ f args r) : PC ⟨P, gl, ty, ok⟩ f args r := fun H => (h H).gl
section
variable {C : Ctx} {env : List D} {H : Heap} {dst : Option Tmp} {ty : TypeId} {pos : String} {aft : Array Edge} {gd : Option (Nat × Bool)} {x y : Operand} {T T' e : TypeId}
theorem Zmb {n S b j : Nat} {ik : IntKind} {i : Int} {zv : Value} {te : TE} {cs ds : List D} (hx : evO C env x = some (.agg cs)) (hy : evO C env y = some (.int ik i)) (ht : C.ty T = some ⟨.array n e, S, b, zv⟩) (hee : C.ty e = some te) (ha : aggK te.k = true) (h0 : 0 ≤ i) (h1 : i < n) (hj : i.toNat * te.size = j) (hd : (cs.drop j).take te.size = ds) : OpQ C ⟨dst, .index T x y, ty, pos, aft, gd⟩ env H (.agg ds) :=
  OpQ.of_runS fun L0 w μ a hs he => by
    have ex := he _ _ hx
    have ey := he _ _ hy
    simp only [VR] at ex ey
    obtain ⟨vs, ex, hv⟩ := ex
    obtain ⟨ti, ta⟩ := ty_tic hee
    have ha' := ta.trans ha
    have ti' : TI C.P e (tkDesc C.P e) te.size te.bytes te.zero := ti
    have hun : C.P.underlying T = some (.array n e) := (C.ok T _ ht).2
    have hlen := VRs_length hv
    refine ⟨.agg (vs.toArray.extract j (j + te.size)), ?_, ?_⟩
    · simp only [execOp, ex, ey]
      unfold Instr.index
      simp [asIntOf, run_underlying hun, h0, h1, part, ti'.run_agg, ha', ti'.run_size, hj]
    simp only [VR]
    refine ⟨(vs.drop j).take te.size, by congr 1; apply Array.ext'; simp [List.extract_eq_take_drop], ?_⟩
    have hl2 : ((vs.drop j).take te.size).length = ((cs.drop j).take te.size).length := by simp [hlen]
    subst hd
    refine VRs_mk hl2 fun k d v h1 h2 => ?_
    rw [List.getElem?_take] at h1 h2
    split at h1
    · rw [List.getElem?_drop] at h1
      rename_i hk
      rw [if_pos hk, List.getElem?_drop] at h2
      obtain ⟨v', k1, k2⟩ := VRs_get hv h1
      rw [h2] at k1
      injection k1 with k1
      subst k1
      exact k2
    cases h1
def valD : D → Option Value
  | .int k n => some (.int k n)
  | .bool b => some (.bool b)
  | .str s => some (.string s)
  | _ => none
def valsD : List D → Option (List Value)
  | [] => some []
  | d :: ds => match valD d, valsD ds with
    | some v, some vs => some (v :: vs)
    | _, _ => none
end
end Go.V
set_option maxHeartbeats 8000000
set_option maxRecDepth 100000
set_option synthInstance.maxSize 100000
set_option synthInstance.maxHeartbeats 2000000
namespace Go.V
open Go.RowKit Go.Proofs
def ff (P : Nat → Bool) (k : Nat) : Option Nat := (List.range' k (6 - k)).find? P
theorem ff_step {P : Nat → Bool} {k : Nat} (h : k < 6) : ff P k = bif P k then some k else ff P (k + 1) := by
  unfold ff
  rw [show 6 - k = (6 - (k + 1)) + 1 by omega, List.range'_succ, List.find?_cons]
  cases P k <;> rfl
theorem ff_end (P : Nat → Bool) : ff P 6 = none := rfl
def tyB (k : Nat) : Nat := (if k < 2 then 32 else 64) - (1 - k % 2)
def skP (b : Nat) (u : Bool) (n k : Nat) : Bool := decide (k / 2 < n) || ((u && !decide (k % 2 = 1)) || (decide (k % 2 = 1) && (!u && decide (b = 10))))
def fitsP (a b : Nat) (u : Bool) (n k : Nat) : Bool := !skP b u n k && decide (bl a ≤ tyB k)
def typeO : Option Nat → Int × Bool × Int
  | some k => (((k / 2 : Nat) : Int), decide (k % 2 = 1), 0)
  | none => (0, false, 3)
def typeR (e : Ca) : Int × Bool × Int := bif okC e then typeO (ff (fitsP (val e.1) e.2.1.toNat e.2.2.1 e.2.2.2.toNat) 0) else (0, false, 1)
abbrev ctD (r : Int × Bool × Int) : D := .agg [.int .i64 r.1, .bool r.2.1]
theorem typeR_bad {e : Ca} (h : okC e = false) : typeR e = (0, false, 1) := by unfold typeR; rw [h]; rfl
theorem typeR_ok {a b n : Nat} {u : Bool} (h : okC (lim a, (b : Int), u, (n : Int)) = true) : typeR (lim a, (b : Int), u, (n : Int)) = typeO (ff (fitsP a b u n) 0) := by
  unfold typeR; rw [h, cond_true]; dsimp only; rw [val_lim, Int.toNat_natCast, Int.toNat_natCast]
theorem ZkD (a : Nat) (ha : (lim a).length ≤ 1024) : PC C ZkQ [numD a] (fun o => o = .ret (.tup [.int .i64 ((bl a : Nat) : Int), .int .i64 0])) := by
  refine PC.rn Zgm Zka Zkb (rs := [.tmp 2, .tmp 3]) (by rw [Zkc]) ?_
  refine ARun.seq (ARun.region ?_); refine zza ?_; refine zza ?_; refine AOps.nil (ARun.seq (ARun.seq (ARun.region ?_))); refine zzm ?_
  refine zzc rfl rfl (valid_lim ha) ?_
  refine zzn ?_; refine AOps.nil ?_
  refine ARun.condF rfl ?_
  refine ARun.skip (ARun.seq (ARun.region ?_)); refine zzm ?_
  refine zzc rfl rfl (Zd3 a (by omega)) ?_
  refine zza ?_; refine zza ?_; refine AOps.nil ?_
  refine ARun.ret ?_
  refine ⟨_, _, _, .tmp rfl (.tmp rfl .nil), .cons (.same _) (.cons (.same _) .nil), rfl, ?_⟩
  rfl
abbrev tyCells : List D := [.int .i64 0, .bool false, .int .i64 31, .int .i64 0, .bool true, .int .i64 32, .int .i64 1, .bool false, .int .i64 63, .int .i64 1, .bool true, .int .i64 64, .int .i64 2, .bool false, .int .i64 63, .int .i64 2, .bool true, .int .i64 64]
noncomputable def Cg : Ctx := ⟨C.P, [(0, tyCells)], C.ty, C.ok⟩
theorem ty_at : ∀ k : Nat, k < 6 → (tyCells.drop (k * 3)).take 3 = [.int .i64 ((k / 2 : Nat) : Int), .bool (decide (k % 2 = 1)), .int .i64 ((tyB k : Nat) : Int)]
  | 0, _ | 1, _ | 2, _ | 3, _ | 4, _ | 5, _ => rfl
  | k + 6, h => by omega
theorem Zlq (e : Ca) (hu : U32 e.1) : PC Cg Zd9 [caD e] (fun o => o = .ret (.tup [ctD (typeR e), .int .i64 (typeR e).2.2])) := by
  obtain ⟨xs, base, u, k⟩ := e
  show PC Cg Zd9 [.agg [sln .u32 xs, .int .i64 base, .bool u, .int .i64 k]] (fun o => o = .ret (.tup [ctD (typeR (xs, base, u, k)), .int .i64 (typeR (xs, base, u, k)).2.2]))
  replace hu : U32 xs := hu
  refine PC.rn Zdy Zhe Zhf (rs := [.cell 2 38, .tmp 3]) (by rw [Zhg]) ?_
  refine ARun.seq (ARun.region ?_); refine zzb ?_
  refine y_new rfl (Zae rfl rfl rfl rfl) ?_
  refine zza ?_; refine AOps.nil (ARun.seq (ARun.seq (ARun.region ?_))); refine zzL ?_
  refine zzc rfl rfl (PC.gl (Zey (xs, base, u, k))) ?_
  refine zzn ?_; refine AOps.nil ?_
  refine ARun.cond rfl (fun h1 => ?_) (fun h1 => ?_)
  · skip
    have h1 : okC (xs, base, u, k) = false := by simpa using h1
    rw [typeR_bad h1]
    refine ARun.seq (ARun.region ?_)
    refine y_op rfl (Zap rfl rfl rfl rfl rfl) ?_
    refine y_new rfl (Zaa rfl rfl rfl rfl rfl rfl rfl rfl (Nat.le_of_ble_eq_true rfl) rfl) ?_
    refine zza ?_; refine AOps.nil ?_
    refine ARun.ret ?_
    refine ⟨_, _, _, ResR.cellA rfl rfl rfl rfl rfl rfl (.tmp rfl .nil), .cons (.same _) (.cons (.same _) .nil), rfl, ?_⟩
    rfl
  have h1 : okC (xs, base, u, k) = true := by simpa using h1
  obtain ⟨a, b, n, rfl, rfl, rfl, ha, hn, hb⟩ := okC_val hu h1
  rw [typeR_ok h1]
  generalize hP : fitsP a b u n = P
  refine ARun.skip (ARun.seq (ARun.region ?_)); refine zzf ?_; refine zzl ?_
  refine zzc rfl rfl (PC.gl (ZkD a ha)) ?_
  refine zzm ?_; refine zze ?_; refine zze ?_; refine zza ?_; refine zza ?_; refine AOps.nil (ARun.seq (ARun.seq (ARun.region ?_))); refine zzL ?_; refine zzm ?_; refine AOps.nil (ARun.block ?_)
  refine ARun.loopI (S := Nat) (fun k : Nat => [(3, .any), (7, .any), (8, .any), (21, .any), (22, .any), (23, .any), (24, .any), (25, .any), (26, .any), (27, .any), (28, .any), (29, .any), (30, .any), (31, .any), (32, .any), (33, .any), (34, .any), (35, .any), (36, .any), (37, .any), (38, .any), (39, .any), (40, .any), (41, .any), (42, .any), (43, .any), (44, .any), (45, .any), (46, .any), (47, .any), (48, .any), (49, .any), (50, .any), (51, .any), (52, .any), (53, .any), (54, .any), (55, .any), (56, .any), (57, .any), (58, .any), (59, .any), (60, .any), (61, .any), (62, .any), (63, .any), (64, .any), (20, .int .i64 (k : Int))]) (fun k : Nat => [some ⟨[.int .i64 0, .bool false], Zj6, 1, true, none⟩]) (fun k : Nat => k ≤ 6 ∧ ff P 0 = ff P k) (fun k : Nat => 6 - k) (0) ?_ ?_ ?_ ?_
  · exact ⟨by omega, rfl⟩
  · (repeat' first | exact envLe_nil | apply envLe_any | apply envLe_same)
  · rfl
  rintro k hinv ih
  obtain ⟨i1, i2⟩ := hinv
  refine ARun.seq (ARun.region ?_); refine zzi ?_; refine AOps.nil (ARun.seq ?_)
  refine ARun.ite rfl (fun g => ?_) (fun g => ?_)
  · skip
    have g : k < 6 := by omega
    rw [ff_step g, ← hP] at i2
    refine ARun.skip (ARun.seq (ARun.block (ARun.seq (ARun.region ?_))))
    refine y_op rfl (Zmb rfl rfl rfl rfl rfl (by omega) (by omega) (show ((k : Nat) : Int).toNat * 3 = k * 3 by rw [Int.toNat_natCast]) (ty_at k g)) ?_
    refine ZaX rfl rfl rfl rfl rfl rfl rfl rfl rfl rfl rfl ?_
    generalize htu : decide (k % 2 = 1) = tu at *
    have hsk : skP b u n k = (decide (k / 2 < n) || ((u && !tu) || (tu && (!u && decide (b = 10))))) := by unfold skP; rw [htu]
    refine AOps.nil (ARun.seq ?_)
    refine ARun.join (S := Unit) (fun w : Unit => [(23, .any), (24, .any), (25, .any), (26, .any), (27, .any), (28, .any), (29, .any), (30, .any), (31, .any), (32, .any), (33, .any), (34, .any), (35, .any), (36, .any), (37, .any), (38, .any), (39, .any), (40, .any), (41, .any), (42, .any), (43, .any), (44, .any), (45, .any), (46, .any), (47, .any), (48, .any), (49, .any), (50, .any), (51, .any), (52, .any), (53, .any), (8, .bool (skP b u n k))]) (fun w : Unit => True) (fun run => ?_) ?_
    · skip
      rw [hsk] at run
      refine ARun.region ?_; refine zzf ?_; refine zzf ?_; refine zzl ?_; refine zzf ?_; refine zzl ?_
      refine y_op rfl (OpQ.cast (d' := .bool (decide (k / 2 < n))) (q_int rfl rfl rfl) (congrArg D.bool (decide_eq_decide.2 (by omega)))) ?_
      refine zzm ?_
      refine AOps.bool 29 rfl (fun s1 => ?_) (fun s1 => ?_)
      · skip
        rw [s1] at run
        refine zzk ?_; refine zzk ?_; refine zzk ?_; refine zzk ?_; refine zzk ?_; refine zzk ?_; refine zzk ?_; refine zzk ?_; refine zzp ?_; refine zzm ?_; refine zzk ?_; refine zzk ?_; refine zzk ?_; refine zzk ?_; refine zzk ?_; refine zzk ?_; refine zzk ?_; refine zzk ?_; refine zzk ?_; refine zzk ?_; refine zzk ?_; refine zzk ?_; refine zzk ?_; refine zzp ?_; refine zza ?_; refine AOps.nil ?_
        exact ARun.ag (run (()) (trivial))
      rw [s1] at run
      refine zzf ?_; refine zzl ?_; refine zzm ?_
      refine AOps.bool 32 rfl (fun c1 => ?_) (fun c1 => ?_)
      · skip
        subst c1
        refine zzf ?_; refine zzf ?_; refine zzl ?_; refine zzn ?_; refine zzp ?_; refine zzp ?_; refine zzm ?_
        refine AOps.bool 39 rfl (fun s2 => ?_) (fun s2 => ?_)
        · skip
          rw [s2] at run
          refine zzk ?_; refine zzk ?_; refine zzk ?_; refine zzk ?_; refine zzk ?_; refine zzk ?_; refine zzk ?_; refine zzk ?_; refine zzk ?_; refine zzk ?_; refine zzk ?_; refine zzk ?_; refine zzk ?_; refine zzp ?_; refine zza ?_; refine AOps.nil ?_
          exact ARun.ag (run (()) (trivial))
        have s2 : tu = true := by simpa using s2
        subst s2
        refine zzf ?_; refine zzf ?_; refine zzl ?_; refine zzm ?_; refine zzf ?_; refine zzl ?_; refine zzn ?_; refine zzp ?_; refine zzm ?_; refine zzk ?_; refine zzk ?_; refine zzk ?_; refine zzp ?_; refine zzp ?_; refine zza ?_; refine AOps.nil ?_
        exact ARun.ag (run (()) (trivial))
      subst c1
      refine zzk ?_; refine zzk ?_; refine zzk ?_; refine zzk ?_; refine zzp ?_; refine zzp ?_; refine zzm ?_; refine zzf ?_; refine zzf ?_; refine zzl ?_; refine zzm ?_
      refine AOps.bool 43 rfl (fun s3 => ?_) (fun s3 => ?_)
      · skip
        subst s3
        refine zzf ?_; refine zzl ?_; refine zzn ?_; refine zzp ?_; refine zzm ?_; refine zzf ?_; refine zzl ?_
        refine y_op rfl (OpQ.cast (d' := .bool (decide (b = 10))) (q_int rfl rfl rfl) (congrArg D.bool (by rw [Bool.eq_iff_iff]; simp; omega))) ?_
        refine zzp ?_; refine zzp ?_; refine zza ?_; refine AOps.nil ?_
        exact ARun.ag (run (()) (trivial))
      subst s3
      refine zzk ?_; refine zzk ?_; refine zzk ?_; refine zzp ?_; refine zzm ?_; refine zzk ?_; refine zzk ?_; refine zzk ?_; refine zzp ?_; refine zzp ?_; refine zza ?_; refine AOps.nil ?_
      exact ARun.ag (run (()) (trivial))
    rintro w hj
    try dsimp only at hj ⊢
    refine ARun.seq (ARun.region ?_); refine zzm ?_; refine zzn ?_; refine zzm ?_
    refine AOps.bool 56 rfl (fun v => ?_) (fun v => ?_)
    · skip
      refine zzm ?_; refine zzf ?_; refine zzl ?_; refine zzi ?_; refine zzp ?_; refine AOps.nil ?_
      refine ARun.ite rfl (fun r => ?_) (fun r => ?_)
      · skip
        have hf : fitsP a b u n k = true := by unfold fitsP; rw [v, decide_eq_true (show bl a ≤ tyB k by omega)]; rfl
        rw [hf, cond_true, hP] at i2
        rw [i2]
        refine ARun.seq (ARun.region ?_); refine zzf ?_; refine zzL ?_
        refine y_new rfl (Zaa rfl rfl rfl rfl rfl rfl rfl rfl (Nat.le_of_ble_eq_true rfl) rfl) ?_
        refine zza ?_; refine AOps.nil ?_
        refine ARun.ret ?_
        refine ⟨_, _, _, ResR.cellA rfl rfl rfl rfl rfl rfl (.tmp rfl .nil), .cons (.same _) (.cons (.same _) .nil), rfl, ?_⟩
        show Out.ret _ = Out.ret (.tup [.agg [.int .i64 ((k / 2 : Nat) : Int), .bool (decide (k % 2 = 1))], _])
        rw [htu]; rfl
      have hf : fitsP a b u n k = false := by unfold fitsP; rw [decide_eq_false (show ¬ bl a ≤ tyB k by omega), Bool.and_false]
      rw [hf, hP] at i2
      refine ARun.skip (ARun.inBlock (ARun.region ?_))
      refine y_op rfl (q_add rfl rfl (nadd1_i64 (by omega))) ?_
      refine zzm ?_; refine AOps.nil ?_
      refine ARun.again (ih (k + 1) ?_ ?_) ?_ ?_
      · exact ⟨g, i2⟩
      · omega
      · (repeat' first | exact envLe_nil | apply envLe_any | apply envLe_same)
      rfl
    have hf : fitsP a b u n k = false := by unfold fitsP; rw [v, Bool.false_and]
    rw [hf, hP] at i2
    refine zzk ?_; refine zzk ?_; refine zzk ?_; refine zzk ?_; refine zzp ?_; refine AOps.nil ?_
    refine ARun.condF rfl ?_
    refine ARun.skip (ARun.inBlock (ARun.region ?_))
    refine y_op rfl (q_add rfl rfl (nadd1_i64 (by omega))) ?_
    refine zzm ?_; refine AOps.nil ?_
    refine ARun.again (ih (k + 1) ?_ ?_) ?_ ?_
    · exact ⟨g, i2⟩
    · omega
    · (repeat' first | exact envLe_nil | apply envLe_any | apply envLe_same)
    rfl
  obtain rfl : k = 6 := by omega
  rw [i2, ff_end]
  refine ARun.exit rfl ?_
  refine ARun.seq (ARun.region ?_)
  refine y_op rfl (Zap rfl rfl rfl rfl rfl) ?_
  refine y_new rfl (Zaa rfl rfl rfl rfl rfl rfl rfl rfl (Nat.le_of_ble_eq_true rfl) rfl) ?_
  refine zza ?_; refine AOps.nil ?_
  refine ARun.ret ?_
  refine ⟨_, _, _, ResR.cellA rfl rfl rfl rfl rfl rfl (.tmp rfl .nil), .cons (.same _) (.cons (.same _) .nil), rfl, ?_⟩
  rfl
end Go.V
set_option maxHeartbeats 8000000
set_option maxRecDepth 100000
set_option synthInstance.maxSize 100000
set_option synthInstance.maxHeartbeats 2000000
namespace Go.V
open Go.RowKit Go.Proofs
theorem w_Wrap_ok {a : Int} {n : Nat} (s : Bool) (fa : fitZ a) (h1 : 1 ≤ n) (h2 : n ≤ 4096) : PC C ZcY [intD a, .int .i64 (n : Int), .bool s] (fun o => o = .ret (.tup [intD (wrapZ n s a), .int .i64 0])) :=
  (Zma (decide (a < 0), lim a.natAbs) (U32_lim _) (n : Int) s).mono fun o ho => by
    rw [ho, valI_int]
    simp only [List.all_cons, List.all_nil, Bool.and_true, okI_of fa, wrapO, if_pos (show (1 : Int) ≤ (n : Int) ∧ (n : Int) ≤ 4096 by omega)]
    rfl
end Go.V
namespace Go.V
theorem parse_of {s : ByteArray} {pre D S : List Nat} {b n : Nat} {u : Bool} (hl : sby s = pre ++ D ++ S) (hs : s.size ≤ 20000) (hF : bF s = (b, pre.length)) (hb : b ≤ 36) (hD : ∀ c ∈ D, digV c < b) (hne : D ≠ []) (hS : ∀ c r, S = c :: r → ¬ digV c < b ∧ c ≠ 39)
    (hk : S.length ≤ (sfL S).1) (hu : (sfL S).2 = (u, n)) (hf : (lim (nv b (D.map digV))).length ≤ 1024) : parseC s = ((nv b (D.map digV), b, u, n), 0, 0) := by
  have hlen := sby_len s
  have h1 : (sby s).drop pre.length = D ++ S := by rw [hl, List.append_assoc, List.drop_left]
  have h2 : (sby s).drop (pre.length + D.length) = S := by rw [← List.drop_drop, h1, List.drop_left]
  have hR : dqA b s true pre.length = (D.map digV, D.length, true) := by
    unfold dqA; rw [h1]; exact dqs_run hb D S true hD (.inl hne) hS
  have hX := sfx_L s (pre.length + D.length)
  rw [h2, hu] at hX
  rw [hl, List.length_append, List.length_append] at hlen
  unfold parseC
  rw [hF]
  dsimp only
  rw [hR]
  dsimp only
  rw [hX]
  dsimp only
  rw [if_neg (by omega), if_neg (by simp), if_neg (by omega), if_pos hf]
theorem bF_L (s : ByteArray) : bF s = bif atL (sby s) sZero then (bif atL ((sby s).drop 1) sX then (16, 2) else bif atL ((sby s).drop 1) sB then (2, 2) else (8, 0)) else (10, 0) := by
  unfold bF
  rw [isAt_L, isAt_L, isAt_L, List.drop_zero]
theorem bF_of {s : ByteArray} {l : List Nat} (h : sby s = l) : bF s = bif atL l sZero then (bif atL (l.drop 1) sX then (16, 2) else bif atL (l.drop 1) sB then (2, 2) else (8, 0)) else (10, 0) := by rw [bF_L, h]
theorem atL_no {l : List Nat} {c d : UInt8} (hl : ∀ x ∈ l, x < 256) (h : ∀ x r, l = x :: r → x ≠ c.toNat ∧ x ≠ d.toNat) : atL l ⟨#[c, d]⟩ = false := by
  cases hb : atL l ⟨#[c, d]⟩
  · rfl
  obtain ⟨h1, h2⟩ := at_two (i := 0) hl hb
  cases l with
  | nil => cases h1
  | cons x r =>
    obtain ⟨h3, h4⟩ := h x r rfl
    rcases h2 with h2 | h2
    · exact absurd h2 h3
    exact absurd h2 h4
theorem atL_no1 {l : List Nat} {c : UInt8} (hl : ∀ x ∈ l, x < 256) (h : ∀ x r, l = x :: r → x ≠ c.toNat) : atL l ⟨#[c]⟩ = false := by
  cases hb : atL l ⟨#[c]⟩
  · rfl
  obtain ⟨h1, h2⟩ := at_one (i := 0) hl hb
  cases l with
  | nil => cases h1
  | cons x r => exact absurd h2 (h x r rfl)
theorem digs_head {b : Nat} (hb : 2 ≤ b) (a : Nat) (h0 : 0 < a) : ∃ d r, digs b a = d :: r ∧ d ≠ 0 := by
  unfold digs
  rw [if_neg (by omega)]
  induction a using Nat.strongRecOn with
  | _ a ih =>
    rw [dgs_pos hb h0, List.reverse_cons]
    rcases Nat.eq_zero_or_pos (a / b) with h | h
    · rw [h, dgs_zero]
      exact ⟨a % b, [], rfl, by have h2 := Nat.div_add_mod a b; rw [h, Nat.mul_zero] at h2; omega⟩
    obtain ⟨d, r, h1, h2⟩ := ih (a / b) (Nat.div_lt_self h0 (by omega)) h
    exact ⟨d, r ++ [a % b], by rw [h1]; rfl, h2⟩
theorem suf_ok (u : Bool) (n : Nat) (hn : n ≤ 2) : (uL u ++ List.replicate n 76).length ≤ (sfL (uL u ++ List.replicate n 76)).1 ∧ (sfL (uL u ++ List.replicate n 76)).2 = (u, n) := by
  rcases (show n = 0 ∨ n = 1 ∨ n = 2 by omega) with rfl | rfl | rfl <;> cases u <;> decide
theorem suf_mem (u : Bool) (n : Nat) : ∀ c ∈ uL u ++ List.replicate n 76, c = 85 ∨ c = 76 := by
  intro c hc
  rcases List.mem_append.1 hc with h | h
  · cases u
    · cases h
    left; simpa [uL] using h
  right; exact (List.mem_replicate.1 h).2
theorem not_dig (c : Nat) (h : sufC c) {b : Nat} (hb : b ≤ 16) : ¬ digV c < b ∧ c ≠ 39 ∧ c < 256 ∧ c ≠ 120 ∧ c ≠ 88 ∧ c ≠ 98 ∧ c ≠ 66 := by
  have e1 : digV 85 = 30 := by decide
  have e2 : digV 117 = 30 := by decide
  have e3 : digV 76 = 21 := by decide
  have e4 : digV 108 = 21 := by decide
  rcases h with rfl | rfl | rfl | rfl <;> refine ⟨by omega, by decide, by decide, by decide, by decide, by decide, by decide⟩
theorem dig_no {c : Nat} (h : digV c < 8) : c ≠ 120 ∧ c ≠ 88 ∧ c ≠ 98 ∧ c ≠ 66 := by
  have e1 : digV 120 = 33 := by decide
  have e2 : digV 88 = 33 := by decide
  have e3 : digV 98 = 11 := by decide
  have e4 : digV 66 = 11 := by decide
  refine ⟨?_, ?_, ?_, ?_⟩ <;> rintro rfl <;> omega
theorem parse_print {a b n : Nat} {u : Bool} (ha : (lim a).length ≤ 60) (hn : n ≤ 2) (hb : b = 2 ∨ b = 8 ∨ b = 16 ∨ b = 10 ∧ 0 < a) : parseC (bytesOf (printL a b u n)) = ((a, b, u, n), 0, 0) := by
  have hb2 : 2 ≤ b := by omega
  have hb16 : b ≤ 16 := by omega
  have hlt := digs_lt hb2 a
  have hnv := digs_nv hb2 a
  have hps := digs_pos hb2 a
  have hln := digs_ln hb2 ha
  have hT : ∀ c ∈ txt b a, digV c < b ∧ c < 256 := by
    rw [txt_digs]; intro c hc
    obtain ⟨d, hd, rfl⟩ := List.mem_map.1 hc
    have := hlt d hd
    rw [digV_fig (by omega)]
    exact ⟨this, fig_lt (by omega)⟩
  have hTm : (txt b a).map digV = digs b a := by
    rw [txt_digs, List.map_map]
    conv => rhs; rw [← List.map_id (digs b a)]
    apply List.map_congr_left
    intro d hd
    exact digV_fig (by have := hlt d hd; omega)
  have hTl : (txt b a).length = (digs b a).length := by rw [txt_digs, List.length_map]
  have hTne : txt b a ≠ [] := by intro h; rw [h] at hTl; rw [← hTl] at hps; cases hps
  obtain ⟨hs1, hs2⟩ := suf_ok u n hn
  have hsm := suf_mem u n
  have hsuf : ∀ c ∈ uL u ++ List.replicate n 76, sufC c := fun c hc => (hsm c hc).elim .inl fun h => .inr (.inr (.inl h))
  have hsl : (uL u ++ List.replicate n 76).length ≤ 3 := by rw [List.length_append, List.length_replicate]; have := uL_le u; omega
  have hS : ∀ c r, uL u ++ List.replicate n 76 = c :: r → ¬ digV c < b ∧ c ≠ 39 := fun c r h => by
    have := not_dig c (hsuf c (by rw [h]; exact List.mem_cons_self ..)) hb16
    exact ⟨this.1, this.2.1⟩
  have hpre := pre_le b a
  have hpm : ∀ c ∈ preL b a, c < 256 := by
    intro c hc
    unfold preL at hc
    (repeat' split at hc) <;> simp at hc <;> omega
  have hall : ∀ c ∈ printL a b u n, c < 256 := by
    intro c hc
    unfold printL at hc
    rw [List.append_assoc] at hc
    rcases List.mem_append.1 hc with h | h
    · rcases List.mem_append.1 h with h | h
      · exact hpm c h
      exact (hT c h).2
    exact (not_dig c (hsuf c h) hb16).2.2.1
  have hsb := sby_bytesOf hall
  have hsz : (bytesOf (printL a b u n)).size ≤ 20000 := by
    rw [bytesOf_size]; unfold printL
    rw [List.append_assoc, List.length_append, List.length_append]; omega
  have hfit : (lim a).length ≤ 1024 := by omega
  have hP : printL a b u n = preL b a ++ txt b a ++ (uL u ++ List.replicate n 76) := by unfold printL; rw [List.append_assoc]
  have hF := bF_of (hsb.trans hP)
  have hSx : ∀ x ∈ uL u ++ List.replicate n 76, x < 256 := fun x hx => (not_dig x (hsuf x hx) hb16).2.2.1
  have main : ∀ pre D : List Nat, preL b a ++ txt b a = pre ++ D → bF (bytesOf (printL a b u n)) = (b, pre.length) → (∀ c ∈ D, digV c < b) → D ≠ [] → nv b (D.map digV) = a → parseC (bytesOf (printL a b u n)) = ((a, b, u, n), 0, 0) := by
    intro pre D h1 h2 h3 h4 h5
    have := parse_of (s := bytesOf (printL a b u n)) (pre := pre) (D := D) (S := uL u ++ List.replicate n 76) (b := b) (u := u) (n := n) (by rw [hsb, hP, h1]) hsz h2 (by omega) h3 h4 hS hs1 hs2 (by rw [h5]; exact hfit)
    rw [h5] at this
    exact this
  have hdigs : nv b ((txt b a).map digV) = a := by rw [hTm, hnv]
  rcases hb with rfl | rfl | rfl | ⟨rfl, h0⟩
  · have e : preL 2 a = [48, 98] := by unfold preL; rw [if_neg (by decide), if_pos rfl]
    rw [e] at hF
    exact main [48, 98] (txt 2 a) (by rw [e]) hF (fun c hc => (hT c hc).1) hTne hdigs
  · by_cases h0 : a = 0
    · subst h0
      have e : preL 8 0 = [] := by decide
      have e2 : txt 8 0 = [48] := rfl
      rw [e, e2] at hF
      have hx : atL (uL u ++ List.replicate n 76) sX = false := atL_no hSx (fun x r h => by
        have := not_dig x (hsuf x (by rw [h]; exact List.mem_cons_self ..)) hb16; exact ⟨this.2.2.2.1, this.2.2.2.2.1⟩)
      have hy : atL (uL u ++ List.replicate n 76) sB = false := atL_no hSx (fun x r h => by
        have := not_dig x (hsuf x (by rw [h]; exact List.mem_cons_self ..)) hb16; exact ⟨this.2.2.2.2.2.1, this.2.2.2.2.2.2⟩)
      refine main [] (txt 8 0) (by rw [e]) ?_ (fun c hc => (hT c hc).1) hTne hdigs
      rw [hF]
      show (bif atL (48 :: (uL u ++ List.replicate n 76)) sZero then (bif atL (uL u ++ List.replicate n 76) sX then (16, 2) else bif atL (uL u ++ List.replicate n 76) sB then (2, 2) else (8, 0)) else (10, 0)) = (8, 0)
      rw [hx, hy]; rfl
    have e : preL 8 a = [48] := by unfold preL; rw [if_neg (by decide), if_neg (by decide), if_pos ⟨rfl, h0⟩]
    rw [e] at hF
    obtain ⟨c, r, hcr⟩ := List.exists_cons_of_ne_nil hTne
    have hc8 := dig_no (hT c (by rw [hcr]; exact List.mem_cons_self ..)).1
    have hTS : ∀ x ∈ txt 8 a ++ (uL u ++ List.replicate n 76), x < 256 := fun x hx => (List.mem_append.1 hx).elim (fun h => (hT x h).2) (hSx x)
    have hx : atL (txt 8 a ++ (uL u ++ List.replicate n 76)) sX = false := atL_no hTS (fun x r h => by
      rw [hcr] at h; injection h with h _; subst h; exact ⟨hc8.1, hc8.2.1⟩)
    have hy : atL (txt 8 a ++ (uL u ++ List.replicate n 76)) sB = false := atL_no hTS (fun x r h => by
      rw [hcr] at h; injection h with h _; subst h; exact ⟨hc8.2.2.1, hc8.2.2.2⟩)
    refine main [] (48 :: txt 8 a) (by rw [e]; rfl) ?_ (fun c hc => ?_) (List.cons_ne_nil _ _) ?_
    · rw [hF]
      show (bif atL (48 :: (txt 8 a ++ (uL u ++ List.replicate n 76))) sZero then (bif atL (txt 8 a ++ (uL u ++ List.replicate n 76)) sX then (16, 2) else bif atL (txt 8 a ++ (uL u ++ List.replicate n 76)) sB then (2, 2) else (8, 0)) else (10, 0)) = (8, 0)
      rw [hx, hy]; rfl
    · rcases List.mem_cons.1 hc with rfl | hc
      · decide
      exact (hT c hc).1
    rw [List.map_cons, show digV 48 = 0 from by decide]
    have : nv 8 (0 :: (txt 8 a).map digV) = nv 8 ((txt 8 a).map digV) := by unfold nv; rw [List.foldl_cons]
    rw [this, hdigs]
  · have e : preL 16 a = [48, 120] := if_pos rfl
    rw [e] at hF
    exact main [48, 120] (txt 16 a) (by rw [e]) hF (fun c hc => (hT c hc).1) hTne hdigs
  have e : preL 10 a = [] := by unfold preL; rw [if_neg (by decide), if_neg (by decide), if_neg (fun h => absurd h.1 (by decide))]
  rw [e, List.nil_append] at hF
  obtain ⟨d, r, hd, hd0⟩ := digs_head (b := 10) (by decide) a h0
  have hz : atL (txt 10 a ++ (uL u ++ List.replicate n 76)) sZero = false := atL_no1 (fun x hx => (List.mem_append.1 hx).elim (fun h => (hT x h).2) (hSx x)) (fun x r' h => by
    rw [txt_digs, hd] at h
    injection h with h _
    subst h
    have : d < 10 := hlt d (by rw [hd]; exact List.mem_cons_self ..)
    show fig d ≠ 48
    unfold fig; rw [if_pos this]; omega)
  refine main [] (txt 10 a) (by rw [e]) ?_ (fun c hc => (hT c hc).1) hTne hdigs
  rw [hF, hz]; rfl
theorem print_dec {a : Nat} : printL a 10 false 0 = strZ 10 false (a : Int) := by
  unfold printL strZ
  rw [show preL 10 a = [] by unfold preL; rw [if_neg (by decide), if_neg (by decide), if_neg (fun h => absurd h.1 (by decide))], decide_eq_false (show ¬ (a : Int) < 0 by omega), Int.natAbs_natCast]
  show [] ++ txt 10 a ++ [] ++ [] = [] ++ txt 10 a
  rw [List.append_nil, List.append_nil]
def plainL (l : List Nat) : List Nat := l.filter (fun c => decide (c ≠ 39))
theorem parse_plain {s : ByteArray} (h : (parseC s).2.1 = 0) : parseC (bytesOf (plainL (sby s))) = parseC s := by
  obtain ⟨hs, hk, hz, hfit, hP⟩ := parseC_ok h
  rw [hP]
  obtain ⟨b2, b16, hf⟩ := bF_ok s
  have hF := bF_L s
  generalize hb : (bF s).1 = b at *
  generalize hff : (bF s).2 = f at *
  have hbf : bF s = (b, f) := by rw [← hb, ← hff]
  have hlen := sby_len s
  have hl256 : ∀ x ∈ sby s, x < 256 := by
    intro x hx
    unfold sby at hx
    obtain ⟨c, _, rfl⟩ := List.mem_map.1 hx
    exact c.toNat_lt
  obtain ⟨D, hD1, hD2, hD3, hD4, hD5⟩ := dqs_split (b := b) (by omega) ((sby s).drop f) true hk
  obtain ⟨c0, r0, r0', hD6, hD7⟩ := hD4 rfl
  obtain ⟨hto, _⟩ := dqA_le (b := b) (q := true) hf
  have hR : dqA b s true f = dqs b true ((sby s).drop f) := rfl
  rw [hR] at hz hto ⊢
  generalize hm : (dqs b true ((sby s).drop f)).2.1 = m at *
  have hX := sfx_L s (f + m)
  rw [hX] at hz ⊢
  rw [List.drop_drop] at hD5
  generalize hSS : (sby s).drop (f + m) = S at *
  have hSl : S.length = s.size - (f + m) := by rw [← hSS, List.length_drop, hlen]
  have hS256 : ∀ x ∈ S, x < 256 := fun x hx => hl256 x (List.mem_of_mem_drop (by rw [← hSS] at hx; exact hx))
  have hSk : S.length ≤ (sfL S).1 := by dsimp only at hz; omega
  have hSc : ∀ x ∈ S, sufC x := by
    intro x hx
    obtain ⟨j, hj, rfl⟩ := List.getElem_of_mem hx
    have := sf_suf hS256 j (by omega)
    rwa [List.getD_eq_getElem?_getD, List.getElem?_eq_getElem hj] at this
  have hsplit : sby s = (sby s).take f ++ ((sby s).drop f).take m ++ S := by
    rw [← hSS, ← List.drop_drop, List.append_assoc, List.take_append_drop, List.take_append_drop]
  have hpreF : ((sby s).take f).filter (fun c => decide (c ≠ 39)) = (sby s).take f ∧ ((sby s).take f).length = f ∧ bF (bytesOf (plainL (sby s))) = (b, f) := by
    have hSf : S.filter (fun c => decide (c ≠ 39)) = S := List.filter_eq_self.2 (fun x hx => decide_eq_true (not_dig x (hSc x hx) (Nat.le_refl 16)).2.1)
    have hpl : plainL (sby s) = ((sby s).take f).filter (fun c => decide (c ≠ 39)) ++ D ++ S := by
      unfold plainL
      conv => lhs; rw [hsplit]
      rw [List.filter_append, List.filter_append, hD1, hSf]
    have hp256 : ∀ x ∈ plainL (sby s), x < 256 := fun x hx => hl256 x (List.mem_filter.1 hx).1
    have hF' := bF_of ((sby_bytesOf hp256).trans hpl)
    rw [hF] at hbf
    cases z0 : atL (sby s) sZero
    · rw [z0, cond_false] at hbf
      obtain ⟨rfl, rfl⟩ := Prod.mk.inj hbf
      rw [List.drop_zero] at hD6
      refine ⟨rfl, rfl, ?_⟩
      rw [hF']
      have : atL ((List.take 0 (sby s)).filter (fun c => decide (c ≠ 39)) ++ D ++ S) sZero = false := by
        rw [hD7]; rw [hD6] at z0; exact z0
      rw [this]; rfl
    rw [z0, cond_true] at hbf
    have k0 := at_one (i := 0) hl256 z0
    have e48 : (48 : UInt8).toNat = 48 := rfl
    have two : ∀ (x : ByteArray), atL ((sby s).drop 1) x = true → (∀ y r, sby s = 48 :: y :: r → y ≠ 39) → f = 2 → atL ((sby s).drop 1) sX = atL ((List.filter (fun c => decide (c ≠ 39)) (List.take f (sby s)) ++ D ++ S).drop 1) sX ∧ atL ((sby s).drop 1) sB = atL ((List.filter (fun c => decide (c ≠ 39)) (List.take f (sby s)) ++ D ++ S).drop 1) sB ∧ atL (List.filter (fun c => decide (c ≠ 39)) (List.take f (sby s)) ++ D ++ S) sZero = true ∧ ((sby s).take f).filter (fun c => decide (c ≠ 39)) = (sby s).take f ∧ ((sby s).take f).length = f := by
      intro x hx hy hf2
      subst hf2
      match hsy : sby s, k0, hx, hy with
      | [], k0, _, _ => exact absurd k0.1 (by simp)
      | [y0], _, hx, _ => cases hx
      | y0 :: y1 :: r, k0, _, hy =>
        have hy0 : y0 = 48 := k0.2.trans e48
        subst hy0
        have hy1 := hy y1 r rfl
        have hfl : List.filter (fun c => decide (c ≠ 39)) (List.take 2 (48 :: y1 :: r)) = [48, y1] := by
          show List.filter _ [48, y1] = _
          rw [List.filter_cons_of_pos (by decide), List.filter_cons_of_pos (by simpa using hy1)]; rfl
        rw [hfl]
        exact ⟨rfl, rfl, rfl, rfl, rfl⟩
    cases zx : atL ((sby s).drop 1) sX
    · rw [zx, cond_false] at hbf
      cases zb : atL ((sby s).drop 1) sB
      · rw [zb, cond_false] at hbf
        obtain ⟨rfl, rfl⟩ := Prod.mk.inj hbf
        rw [List.drop_zero] at hD6
        refine ⟨rfl, rfl, ?_⟩
        rw [hF', hD7]
        rw [hD6] at k0 z0
        have hc0 : c0 = 48 := k0.2.trans e48
        subst hc0
        show (bif atL (48 :: (r0' ++ S)) sZero then (bif atL (r0' ++ S) sX then (16, 2) else bif atL (r0' ++ S) sB then (2, 2) else (8, 0)) else (10, 0)) = (8, 0)
        have hno : ∀ x r, r0' ++ S = x :: r → x ≠ 120 ∧ x ≠ 88 ∧ x ≠ 98 ∧ x ≠ 66 := by
          intro x r hxr
          cases r0' with
          | nil => have := not_dig x (hSc x (by rw [List.nil_append] at hxr; rw [hxr]; exact List.mem_cons_self ..)) (Nat.le_refl 16); exact ⟨this.2.2.2.1, this.2.2.2.2.1, this.2.2.2.2.2.1, this.2.2.2.2.2.2⟩
          | cons y r' =>
            injection hxr with hxr _
            subst hxr
            exact dig_no (hD2 y (by rw [hD7]; exact List.mem_cons_of_mem _ (List.mem_cons_self ..)))
        have hr256 : ∀ x ∈ r0' ++ S, x < 256 := fun x hx => hp256 x (by rw [hpl, hD7]; exact List.mem_cons_of_mem _ hx)
        rw [atL_no (c := 120) (d := 88) hr256 (fun x r h => ⟨(hno x r h).1, (hno x r h).2.1⟩), atL_no (c := 98) (d := 66) hr256 (fun x r h => ⟨(hno x r h).2.2.1, (hno x r h).2.2.2⟩)]
        rfl
      rw [zb, cond_true] at hbf
      obtain ⟨rfl, rfl⟩ := Prod.mk.inj hbf
      obtain ⟨t1, t2, t3, t4, t5⟩ := two sB zb (fun y r hy => by
        have := (at_two hl256 zb).2
        rw [hy] at this
        rintro rfl
        rcases this with h | h
        · exact absurd (show (39 : Nat) = 98 from h) (by decide)
        exact absurd (show (39 : Nat) = 66 from h) (by decide)) rfl
      refine ⟨t4, t5, ?_⟩
      rw [hF', t3, ← t1, ← t2, zx, zb]; rfl
    rw [zx, cond_true] at hbf
    obtain ⟨rfl, rfl⟩ := Prod.mk.inj hbf
    obtain ⟨t1, t2, t3, t4, t5⟩ := two sX zx (fun y r hy => by
      have := (at_two hl256 zx).2
      rw [hy] at this
      rintro rfl
      rcases this with h | h
      · exact absurd (show (39 : Nat) = 120 from h) (by decide)
      exact absurd (show (39 : Nat) = 88 from h) (by decide)) rfl
    refine ⟨t4, t5, ?_⟩
    rw [hF', t3, ← t1, zx]; rfl
  obtain ⟨hp1, hp2, hp3⟩ := hpreF
  have hSf : S.filter (fun c => decide (c ≠ 39)) = S := List.filter_eq_self.2 (fun x hx => decide_eq_true (not_dig x (hSc x hx) (Nat.le_refl 16)).2.1)
  have hpl : plainL (sby s) = (sby s).take f ++ D ++ S := by
    unfold plainL
    conv => lhs; rw [hsplit]
    rw [List.filter_append, List.filter_append, hD1, hSf, hp1]
  have hp256 : ∀ x ∈ plainL (sby s), x < 256 := fun x hx => hl256 x (List.mem_filter.1 hx).1
  have hsz : (bytesOf (plainL (sby s))).size ≤ 20000 := by
    rw [bytesOf_size]
    have := List.length_filter_le (fun c => decide (c ≠ 39)) (sby s)
    unfold plainL; omega
  rw [← hD3] at hfit ⊢
  exact parse_of (s := bytesOf (plainL (sby s))) (pre := (sby s).take f) (D := D) (S := S) (b := b) (u := (sfL S).2.1) (n := (sfL S).2.2) (by rw [sby_bytesOf hp256, hpl]) hsz (by rw [hp3, hp2]) (by omega) hD2 (by rw [hD7]; exact List.cons_ne_nil _ _) hD5 hSk rfl hfit
end Go.V
set_option maxHeartbeats 8000000
set_option maxRecDepth 100000
set_option synthInstance.maxSize 100000
set_option synthInstance.maxHeartbeats 2000000
namespace Go.V
open Go.RowKit Go.Proofs
theorem Ze2 (c : Cn) (hc : (lim c.1).length ≤ 1024) : PC C Ze3 [cnD c, cnD c] (fun o => o = .ret (.bool true)) := by
  obtain ⟨v, b, u, n⟩ := c
  show PC C Ze3 [.agg [numD v, .int .i64 (b : Int), .bool u, .int .i64 (n : Int)], .agg [numD v, .int .i64 (b : Int), .bool u, .int .i64 (n : Int)]] (fun o => o = .ret (.bool true))
  replace hc : (lim v).length ≤ 1024 := hc
  refine PC.rn Zd8 Zid Zie (rs := [.tmp 4]) (by rw [Zif]) ?_
  refine ARun.seq (ARun.region ?_); refine zzb ?_; refine zzb ?_; refine zza ?_; refine AOps.nil (ARun.seq ?_)
  refine ARun.drawnP 28 (fun _ => False) mixC rfl rfl (by kernel_rfl) (fun _ _ h => h.elim) ?_
  refine .op rfl (q_fldS rfl rfl rfl (by decide)) ?_
  refine .op rfl (q_load rfl rfl rfl rfl) ?_
  refine .op rfl (q_call rfl rfl (ZiW false v (by omega))) ?_
  refine .op rfl (q_fldS rfl rfl rfl (by decide)) ?_
  refine .op rfl (q_load rfl rfl rfl rfl) ?_
  refine .op rfl (q_call rfl rfl (ZiW false v (by omega))) ?_
  refine .op rfl (q_call rfl rfl (same_T (sgnd false v))) ?_
  refine .op rfl (q_move rfl) ?_
  refine .op rfl (q_fldS rfl rfl rfl (by decide)) ?_
  refine .op rfl (q_load rfl rfl rfl rfl) ?_
  refine .op rfl (q_fldS rfl rfl rfl (by decide)) ?_
  refine .op rfl (q_load rfl rfl rfl rfl) ?_
  refine .op rfl (Zex rfl rfl rfl) ?_
  refine .op rfl (q_pick rfl rfl rfl rfl) ?_
  refine .op rfl (q_move rfl) ?_
  refine .op rfl (q_fldS rfl rfl rfl (by decide)) ?_
  refine .op rfl (q_load rfl rfl rfl rfl) ?_
  refine .op rfl (q_fldS rfl rfl rfl (by decide)) ?_
  refine .op rfl (q_load rfl rfl rfl rfl) ?_
  refine .op rfl (Zl3 rfl rfl rfl rfl) ?_
  refine .op rfl (q_pick rfl rfl rfl rfl) ?_
  refine .op rfl (q_move rfl) ?_
  refine .op rfl (q_fldS rfl rfl rfl (by decide)) ?_
  refine .op rfl (q_load rfl rfl rfl rfl) ?_
  refine .op rfl (q_fldS rfl rfl rfl (by decide)) ?_
  refine .op rfl (q_load rfl rfl rfl rfl) ?_
  refine .op rfl (Zex rfl rfl rfl) ?_
  refine .op rfl (q_pick rfl rfl rfl rfl) ?_
  refine .nil (fun hG => ?_)
  refine zza ?_; refine AOps.nil ?_
  refine ARun.ret ?_
  refine ⟨_, _, _, .tmp rfl .nil, .cons (.same _) .nil, rfl, ?_⟩
  rfl
theorem parseC_fit (s : ByteArray) : (lim (parseC s).1.1).length ≤ 1024 := by
  have h0 : (lim 0).length ≤ 1024 := by rw [lim_zero]; exact Nat.zero_le _
  unfold parseC
  split
  · exact h0
  split
  · exact h0
  split
  · exact h0
  split
  · rename_i h; exact h
  exact h0
end Go.V
