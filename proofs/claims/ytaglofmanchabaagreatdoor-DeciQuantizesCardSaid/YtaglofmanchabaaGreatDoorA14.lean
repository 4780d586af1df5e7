/- Rules for steps and contracts of functions, each proved; no condition. -/
import Derived.Test.YtaglofmanchabaaGreatDoorA13
set_option linter.unusedVariables false
set_option linter.unusedSimpArgs false
set_option linter.unnecessarySimpa false
set_option maxHeartbeats 2000000
set_option synthInstance.maxHeartbeats 2000000
set_option synthInstance.maxSize 100000
namespace Go.V
open Go.RowKit Go.Proofs
def sumN (P : Nat) (A ea B eb : Int) : Int × Int :=
  if A = 0 then (B, eb) else if B = 0 then (A, ea) else if eb < ea - 6 * (P : Int) then (A * ((10 ^ (6 * P) : Nat) : Int) + sgnd (decide (B < 0)) 1, ea - 6 * (P : Int))
  else (A * ((10 ^ (ea - eb).toNat : Nat) : Int) + B, eb)
def sumZ (P : Nat) (X ex Y ey : Int) : Int × Int := if ex < ey then sumN P Y ey X ex else sumN P X ex Y ey
abbrev ex0 : Option AObj := some ⟨[.bool false, .nilsl, .nilsl, .int .i64 0, .bool false, .int .i64 0], ZE, 1, true, none⟩
abbrev exP (e : Int) (neg : Bool) (prefer : Int) : Option AObj := some ⟨[.bool false, .nilsl, numD 1, .int .i64 e, .bool neg, .int .i64 prefer], ZE, 1, true, none⟩
theorem ZeV {z : Int} : ((((lim z.natAbs).length : Nat) : Int) == 0) = decide (z = 0) := by
  have := ZB (n := z.natAbs)
  by_cases h : z = 0
  · subst h; rw [show (0 : Int).natAbs = 0 from rfl, Za9]; rfl
  rw [decide_eq_false h];exact beq_eq_false_iff_ne.2 (by omega)
theorem ng_dec {X Y : Int} {nx ny : Bool} : (((((lim X.natAbs).length : Nat) : Int) == 0) && ((((lim Y.natAbs).length : Nat) : Int) == 0) && (nx == ny)) = decide (X = 0 ∧ Y = 0 ∧ nx = ny) := by
  rw [ZeV, ZeV, Bool.decide_and, Bool.decide_and, Bool.and_assoc]
  cases nx <;> cases ny <;> rfl
theorem tw_fit {z : Int} {P k : Nat} (hP : P ≤ 34) (h : z.natAbs < 10 ^ (2 * P)) (hk : k ≤ 6 * P) : fitZ z ∧ fitZ (z * ((10 ^ k : Nat) : Int)) ∧ (z * ((10 ^ k : Nat) : Int)).natAbs < 10 ^ (8 * P) := by
  have h1 : z.natAbs * 10 ^ k < 10 ^ (8 * P) := Zak h (by omega);exact ⟨fitW h (by omega), by unfold fitZ; rw [Zdz]; exact fitW h1 (by omega), by rw [Zdz]; exact h1⟩
theorem Zmv (f dir : Int) (X ex Y ey : Int) (nx ny : Bool) (px py : Int) (hf : isF f) (hX : X.natAbs < 10 ^ (2 * fP f)) (hY : Y.natAbs < 10 ^ (2 * fP f)) (hex : -100000 ≤ ex ∧ ex ≤ 100000) (hey : -100000 ≤ ey ∧ ey ≤ 100000) :
    PC C 122 [fmtD f dir, exD X 1 ex nx px, exD Y 1 ey ny py] (fun o => o = .ret (exD (sumZ (fP f) X ex Y ey).1 1 (sumZ (fP f) X ex Y ey).2 (if X = 0 ∧ Y = 0 ∧ nx = ny then nx else decide (dir = 5)) (min px py))) := by
  have hp := ZW f;generalize hNG : (if X = 0 ∧ Y = 0 ∧ nx = ny then nx else decide (dir = 5)) = NG;generalize hPR : min px py = PR;refine Znr Tryz.func122 Tryz.ntmps122 Tryz.results122 ?_;refine go ?_;refine zzb ?_;refine Zq rfl (Zdu rfl rfl rfl) ?_;refine Zq rfl (Zdu rfl rfl rfl) ?_;refine gn ?_;refine Za rfl (Znq (Zd rfl rfl rfl rfl rfl rfl rfl rfl rfl rfl rfl (by decide) (by decide) rfl) ZO) ?_;refine zzf ?_; refine zzl ?_; refine zzi ?_; refine zzF ?_; refine zzG ?_; refine zzF ?_; refine zzG ?_;refine Za rfl (Znq (Zgt rfl rfl) (congrArg (D.int .i64) hPR)) ?_;refine zzB ?_; refine zzA ?_; refine zzS ?_; refine AOps.nil (ARun.seq (zzs ?_)); refine zzF ?_; refine zzF ?_; refine zzG ?_; refine zzN ?_; refine zzi ?_; refine Zr ?_;apply Znu 24 (fun sj1 => [(24, .any), (25, .any), (26, .any), (27, .any), (28, .any), (29, .any), (30, .bool sj1)]) rfl
  · intro hj1 run1
    try replace hj1 := Zh hj1
    refine zzF ?_; refine zzF ?_; refine zzG ?_; refine zzN ?_; refine zzi ?_; refine ZK ?_;exact AOps.ag run1
  · intro hj1 run1
    try replace hj1 := Zj hj1
    refine Zg ?_; refine Zg ?_; refine Zg ?_; refine Zg ?_; refine Zg ?_; refine ZK ?_;exact AOps.ag run1
  refine Zr ?_;apply Znu 31 (fun sj2 => [(31, .any), (32, .any), (33, .any), (34, .any), (35, .any), (36, .any), (37, .bool sj2)]) rfl
  · intro hj2 run2
    try replace hj2 := Zh hj2
    refine gn ?_;refine Za rfl (Zdm rfl rfl rfl) ?_;refine ZK ?_;exact AOps.ag run2
  · intro hj2 run2
    try replace hj2 := Zj hj2
    refine Zg ?_; refine Zg ?_; refine Zg ?_; refine Zg ?_; refine Zg ?_; refine ZK ?_;exact AOps.ag run2
  refine AOps.nil ?_;refine ZnQ (S := Bool) (fun ng : Bool => [(38, .any), (39, .any), (40, .any)]) (fun ng : Bool => [exO (decide (X < 0)) X.natAbs 1 ex nx px, exO (decide (Y < 0)) Y.natAbs 1 ey ny py, ex0, exP 0 ng PR]) (fun ng : Bool => ng = NG) (fun run => ?_) ?_
  · skip
    refine ARun.cond rfl (fun h => ?_) (fun h => ?_)
    · skip
      refine ARun.region ?_; refine zzF ?_; refine zzG ?_; refine zzF ?_; refine zzT ?_; refine AOps.nil ?_;exact ARun.ag (run (nx) (by rw [← hNG, if_pos (Zh (ng_dec ▸ h))]))
    refine ARun.skip ?_;exact ARun.ag (run (decide (dir = 5)) (by rw [← hNG, if_neg (Zj (ng_dec ▸ h))]))
  rintro ng hj
  try dsimp only at hj ⊢
  subst hj;refine ARun.seq (zzs ?_); refine zzF ?_; refine zzG ?_; refine zzF ?_; refine zzG ?_; refine zzi ?_; refine AOps.nil ?_;refine ZnQ (S := Int × Int × Bool × Int × Int × Int × Bool × Int) (fun σ : Int × Int × Bool × Int × Int × Int × Bool × Int => [(46, .any), (47, .any)]) (fun σ : Int × Int × Bool × Int × Int × Int × Bool × Int => [exO (decide (σ.1 < 0)) σ.1.natAbs 1 σ.2.1 σ.2.2.1 σ.2.2.2.1, exO (decide (σ.2.2.2.2.1 < 0)) σ.2.2.2.2.1.natAbs 1 σ.2.2.2.2.2.1 σ.2.2.2.2.2.2.1 σ.2.2.2.2.2.2.2, ex0, exP 0 ng PR]) (fun σ : Int × Int × Bool × Int × Int × Int × Bool × Int => sumN (fP f) σ.1 σ.2.1 σ.2.2.2.2.1 σ.2.2.2.2.2.1 = sumZ (fP f) X ex Y ey ∧ σ.2.2.2.2.2.1 ≤ σ.2.1 ∧ σ.1.natAbs < 10 ^ (2 * fP f) ∧ σ.2.2.2.2.1.natAbs < 10 ^ (2 * fP f) ∧ -100000 ≤ σ.2.2.2.2.2.1 ∧ σ.2.1 ≤ 100000) (fun run => ?_) ?_
  · skip
    refine Znp rfl (fun hs => ?_) (fun hs => ?_)
    · skip
      refine ARun.region ?_; refine zzH ?_; refine zzH ?_; refine zzS ?_; refine zzS ?_; refine AOps.nil ?_;exact ARun.ag (run ((Y, ey, ny, py, X, ex, nx, px)) (⟨by unfold sumZ; rw [if_pos hs], by dsimp only; omega, hY, hX, hex.1, hey.2⟩))
    refine ARun.skip ?_;exact ARun.ag (run ((X, ex, nx, px, Y, ey, ny, py)) (⟨by unfold sumZ; rw [if_neg hs], by dsimp only; omega, hX, hY, hey.1, hex.2⟩))
  rintro ⟨A, ea, na, pa, B, eb, nb, pb⟩ hj
  try dsimp only at hj ⊢
  obtain ⟨j1, j2, j3, j4, j5, j6⟩ := hj;rw [← j1];unfold sumN;refine go ?_;refine ARun.cond rfl (fun h1 => ?_) (fun h1 => ?_)
  · skip
    have h1 : A = 0 := Zh (ZeV ▸ h1);rw [if_pos h1];refine ARun.seq ?_;refine ZnD (n := 6) (fun S : Nat → Bool => [exO (decide (A < 0)) A.natAbs 1 ea na pa, exO (decide (B < 0)) B.natAbs 1 eb nb pb, ex0, bif S 5 then exO (decide (B < 0)) B.natAbs 1 0 ng PR else exP 0 ng PR]) [] (fun _ => False) (sk := []) mixC rfl rfl (by kernel_rfl) rfl (by kernel_rfl) rfl (fun _ _ _ h => h.elim) ?_;refine DChG.op rfl (fun _ => ZZ rfl rfl rfl (by decide)) (fun _ => rfl) rfl rfl ?_;refine ZnL rfl (fun S hn hd hc => OpQ.pre (H1 := [exO (decide (A < 0)) A.natAbs 1 ea na pa, exO (decide (B < 0)) B.natAbs 1 eb nb pb, ex0, bif false then exO (decide (B < 0)) B.natAbs 1 0 ng PR else exP 0 ng PR]) (by simp only [(clF hc hn (by kernel_rfl) : S 5 = false)]) (Zp rfl rfl rfl rfl rfl rfl)) (fun _ => rfl) rfl rfl ?_;refine DChG.op rfl (fun _ => ZZ rfl rfl rfl (by decide)) (fun _ => rfl) rfl rfl ?_;refine DChG.op rfl (fun _ => ZC rfl rfl rfl rfl rfl) (fun _ => rfl) rfl rfl ?_;refine DChG.op rfl (fun _ => ZZ rfl rfl rfl (by decide)) (fun _ => rfl) rfl rfl ?_;refine ZnM rfl (fun S hn hd hc => ZnN (H1 := [exO (decide (A < 0)) A.natAbs 1 ea na pa, exO (decide (B < 0)) B.natAbs 1 eb nb pb, ex0, bif false then exO (decide (B < 0)) B.natAbs 1 0 ng PR else exP 0 ng PR]) (H3 := [exO (decide (A < 0)) A.natAbs 1 ea na pa, exO (decide (B < 0)) B.natAbs 1 eb nb pb, ex0, bif true then exO (decide (B < 0)) B.natAbs 1 0 ng PR else exP 0 ng PR]) (by simp only [hn]) rfl (Zb2 rfl rfl rfl rfl rfl rfl rfl rfl (Nat.le_of_ble_eq_true rfl) rfl)) rfl rfl ?_;refine .nil (fun hG => AOps.fin (n := 4) (as' := []) (H' := [exO (decide (A < 0)) A.natAbs 1 ea na pa, exO (decide (B < 0)) B.natAbs 1 eb nb pb, ex0, exO (decide (B < 0)) B.natAbs 1 0 ng PR]) rfl rfl rfl ?_);refine go ?_;refine Zns ?_;rfl
  have h1 : ¬ A = 0 := Zj (ZeV ▸ h1);rw [if_neg h1];refine go ?_;refine ARun.cond rfl (fun h2 => ?_) (fun h2 => ?_)
  · skip
    have h2 : B = 0 := Zh (ZeV ▸ h2);rw [if_pos h2];refine ARun.seq ?_;refine ZnD (n := 6) (fun S : Nat → Bool => [exO (decide (A < 0)) A.natAbs 1 ea na pa, exO (decide (B < 0)) B.natAbs 1 eb nb pb, ex0, bif S 5 then exO (decide (A < 0)) A.natAbs 1 0 ng PR else exP 0 ng PR]) [] (fun _ => False) (sk := []) mixC rfl rfl (by kernel_rfl) rfl (by kernel_rfl) rfl (fun _ _ _ h => h.elim) ?_;refine DChG.op rfl (fun _ => ZZ rfl rfl rfl (by decide)) (fun _ => rfl) rfl rfl ?_;refine ZnL rfl (fun S hn hd hc => OpQ.pre (H1 := [exO (decide (A < 0)) A.natAbs 1 ea na pa, exO (decide (B < 0)) B.natAbs 1 eb nb pb, ex0, bif false then exO (decide (A < 0)) A.natAbs 1 0 ng PR else exP 0 ng PR]) (by simp only [(clF hc hn (by kernel_rfl) : S 5 = false)]) (Zp rfl rfl rfl rfl rfl rfl)) (fun _ => rfl) rfl rfl ?_;refine DChG.op rfl (fun _ => ZZ rfl rfl rfl (by decide)) (fun _ => rfl) rfl rfl ?_;refine DChG.op rfl (fun _ => ZC rfl rfl rfl rfl rfl) (fun _ => rfl) rfl rfl ?_;refine DChG.op rfl (fun _ => ZZ rfl rfl rfl (by decide)) (fun _ => rfl) rfl rfl ?_;refine ZnM rfl (fun S hn hd hc => ZnN (H1 := [exO (decide (A < 0)) A.natAbs 1 ea na pa, exO (decide (B < 0)) B.natAbs 1 eb nb pb, ex0, bif false then exO (decide (A < 0)) A.natAbs 1 0 ng PR else exP 0 ng PR]) (H3 := [exO (decide (A < 0)) A.natAbs 1 ea na pa, exO (decide (B < 0)) B.natAbs 1 eb nb pb, ex0, bif true then exO (decide (A < 0)) A.natAbs 1 0 ng PR else exP 0 ng PR]) (by simp only [hn]) rfl (Zb2 rfl rfl rfl rfl rfl rfl rfl rfl (Nat.le_of_ble_eq_true rfl) rfl)) rfl rfl ?_;refine .nil (fun hG => AOps.fin (n := 4) (as' := []) (H' := [exO (decide (A < 0)) A.natAbs 1 ea na pa, exO (decide (B < 0)) B.natAbs 1 eb nb pb, ex0, exO (decide (A < 0)) A.natAbs 1 0 ng PR]) rfl rfl rfl ?_);refine go ?_;refine Zns ?_;rfl
  have h2 : ¬ B = 0 := Zj (ZeV ▸ h2);rw [if_neg h2];refine gn ?_;refine Za rfl (ZaC rfl rfl (IntWalk.i64_in _ (by omega))) ?_;refine Za rfl (Znq (d' := .int .i64 (ea - 6 * (fP f : Int))) (Zk rfl rfl (IntWalk.i64_in _ (by omega))) (congrArg (D.int .i64) (by omega))) ?_;refine zza ?_; refine zzt ?_; refine zzF ?_; refine zzG ?_; refine Zr ?_; refine zzi ?_; refine AOps.nil ?_;refine ZnQ (S := Int × Int) (fun σ : Int × Int => [(84, .any), (85, .any), (86, .any), (87, .any), (88, .any), (89, .any), (90, .any), (91, .any)]) (fun σ : Int × Int => [exO (decide (A < 0)) A.natAbs 1 ea na pa, exO (decide (σ.1 < 0)) σ.1.natAbs 1 σ.2 nb pb, ex0, exP 0 ng PR]) (fun σ : Int × Int => (A * ((10 ^ (ea - σ.2).toNat : Nat) : Int) + σ.1, σ.2) = (if eb < ea - 6 * (fP f : Int) then (A * ((10 ^ (6 * fP f) : Nat) : Int) + sgnd (decide (B < 0)) 1, ea - 6 * (fP f : Int)) else (A * ((10 ^ (ea - eb).toNat : Nat) : Int) + B, eb)) ∧ σ.1.natAbs < 10 ^ (2 * fP f) ∧ σ.2 ≤ ea ∧ ea - 6 * (fP f : Int) ≤ σ.2) (fun run => ?_) ?_
  · skip
    refine Znp rfl (fun h3 => ?_) (fun h3 => ?_)
    · skip
      refine gn ?_;refine Za rfl (Znq (Zd rfl rfl rfl rfl rfl rfl rfl rfl rfl rfl rfl (by decide) (by decide) rfl) ZO) ?_;refine zzB ?_; refine Zr ?_; refine zzF ?_; refine zzS ?_; refine zzF ?_; refine zzT ?_; refine AOps.nil ?_;exact ZnC (run ((sgnd (decide (B < 0)) 1, ea - 6 * (fP f : Int))) (⟨by dsimp only; rw [if_pos h3, show (ea - (ea - 6 * (fP f : Int))).toNat = 6 * fP f by omega], by dsimp only; rw [Zw]; exact Nat.one_lt_pow (by omega) (by omega), by dsimp only; omega, by dsimp only; omega⟩)) (by (repeat' first | exact Zag | apply Zah | apply Z4)) (by rw [Zw, ZaO, show decide (0 < 1) = true from rfl, Bool.and_true]; rfl)
    refine ARun.skip ?_;exact ARun.ag (run ((B, eb)) (⟨by dsimp only; rw [if_neg h3], j4, by dsimp only; omega, by dsimp only; omega⟩))
  rintro ⟨B1, e1⟩ hj
  try dsimp only at hj ⊢
  obtain ⟨k1, k2, k3, k4⟩ := hj;rw [← k1];obtain ⟨k, hk⟩ : ∃ k : Nat, ea - e1 = (k : Int) := ⟨(ea - e1).toNat, by omega⟩
  have hk2 : k ≤ 6 * fP f := by omega
  rw [hk, Int.toNat_natCast];obtain ⟨f1, f2, f3⟩ := tw_fit (k := k) (by omega) j3 hk2;have f4 : fitZ B1 := fitW k2 (by omega)
  have f5 : fitZ (A * ((10 ^ k : Nat) : Int) + B1) := by
    have h4 : (A * ((10 ^ k : Nat) : Int) + B1).natAbs < 10 ^ (8 * fP f + 1) := by
      have := Int.natAbs_add_le (A * ((10 ^ k : Nat) : Int)) B1;have h5 := ZG k2 (show 2 * fP f ≤ 8 * fP f by omega);rw [Nat.pow_succ]; omega
    exact fitW h4 (by omega)
  refine go ?_;refine ZnD (n := 17) (fun S : Nat → Bool => [exO (decide (A < 0)) A.natAbs 1 ea na pa, exO (decide (B1 < 0)) B1.natAbs 1 e1 nb pb, ex0, bif S 16 then exO (decide (A * ((10 ^ k : Nat) : Int) + B1 < 0)) (A * ((10 ^ k : Nat) : Int) + B1).natAbs 1 e1 ng PR else exP e1 ng PR]) [] (fun _ => False) (sk := []) mixC rfl rfl (by kernel_rfl) rfl (by kernel_rfl) rfl (fun _ _ _ h => h.elim) ?_;refine DChG.op rfl (fun _ => ZZ rfl rfl rfl (by decide)) (fun _ => rfl) rfl rfl ?_;refine ZnL rfl (fun S hn hd hc => OpQ.pre (H1 := [exO (decide (A < 0)) A.natAbs 1 ea na pa, exO (decide (B1 < 0)) B1.natAbs 1 e1 nb pb, ex0, bif false then exO (decide (A * ((10 ^ k : Nat) : Int) + B1 < 0)) (A * ((10 ^ k : Nat) : Int) + B1).natAbs 1 e1 ng PR else exP e1 ng PR]) (by simp only [(clF hc hn (by kernel_rfl) : S 16 = false)]) (Zp rfl rfl rfl rfl rfl rfl)) (fun _ => rfl) rfl rfl ?_;refine DChG.op rfl (fun _ => ZZ rfl rfl rfl (by decide)) (fun _ => rfl) rfl rfl ?_;refine ZnL rfl (fun S hn hd hc => OpQ.pre (H1 := [exO (decide (A < 0)) A.natAbs 1 ea na pa, exO (decide (B1 < 0)) B1.natAbs 1 e1 nb pb, ex0, bif false then exO (decide (A * ((10 ^ k : Nat) : Int) + B1 < 0)) (A * ((10 ^ k : Nat) : Int) + B1).natAbs 1 e1 ng PR else exP e1 ng PR]) (by simp only [(clF hc hn (by kernel_rfl) : S 16 = false)]) (ZC rfl rfl rfl rfl rfl)) (fun _ => rfl) rfl rfl ?_;refine DChG.op rfl (fun _ => ZZ rfl rfl rfl (by decide)) (fun _ => rfl) rfl rfl ?_;refine ZnL rfl (fun S hn hd hc => OpQ.pre (H1 := [exO (decide (A < 0)) A.natAbs 1 ea na pa, exO (decide (B1 < 0)) B1.natAbs 1 e1 nb pb, ex0, bif false then exO (decide (A * ((10 ^ k : Nat) : Int) + B1 < 0)) (A * ((10 ^ k : Nat) : Int) + B1).natAbs 1 e1 ng PR else exP e1 ng PR]) (by simp only [(clF hc hn (by kernel_rfl) : S 16 = false)]) (ZC rfl rfl rfl rfl rfl)) (fun _ => rfl) rfl rfl ?_;refine DChG.op rfl (fun _ => Znq (d' := .int .i64 (k : Int)) (Zk rfl rfl (IntWalk.i64_in _ (by omega))) (congrArg (D.int .i64) hk)) (fun _ => rfl) rfl rfl ?_;refine DChG.op rfl (fun _ => Zb rfl rfl (ZaS k (by omega))) (fun _ => rfl) rfl rfl ?_;refine DChG.op rfl (fun _ => Zb rfl rfl (Zej A (10 ^ k) f1 (fitT (by omega)) f2)) (fun _ => rfl) rfl rfl ?_;refine DChG.op rfl (fun _ => ZZ rfl rfl rfl (by decide)) (fun _ => rfl) rfl rfl ?_;refine ZnL rfl (fun S hn hd hc => OpQ.pre (H1 := [exO (decide (A < 0)) A.natAbs 1 ea na pa, exO (decide (B1 < 0)) B1.natAbs 1 e1 nb pb, ex0, bif false then exO (decide (A * ((10 ^ k : Nat) : Int) + B1 < 0)) (A * ((10 ^ k : Nat) : Int) + B1).natAbs 1 e1 ng PR else exP e1 ng PR]) (by simp only [(clF hc hn (by kernel_rfl) : S 16 = false)]) (Zp rfl rfl rfl rfl rfl rfl)) (fun _ => rfl) rfl rfl ?_;refine DChG.op rfl (fun _ => Zb rfl rfl (wAdd (A * ((10 ^ k : Nat) : Int)) B1 f2 f4 f5)) (fun _ => rfl) rfl rfl ?_;refine DChG.op rfl (fun _ => ZaH rfl) (fun _ => rfl) rfl rfl ?_;refine DChG.op rfl (fun _ => ZD rfl rfl) (fun _ => rfl) rfl rfl ?_;refine DChG.op rfl (fun _ => ZD rfl rfl) (fun _ => rfl) rfl rfl ?_;refine DChG.op rfl (fun _ => ZZ rfl rfl rfl (by decide)) (fun _ => rfl) rfl rfl ?_;refine ZnM rfl (fun S hn hd hc => ZnN (H1 := [exO (decide (A < 0)) A.natAbs 1 ea na pa, exO (decide (B1 < 0)) B1.natAbs 1 e1 nb pb, ex0, bif false then exO (decide (A * ((10 ^ k : Nat) : Int) + B1 < 0)) (A * ((10 ^ k : Nat) : Int) + B1).natAbs 1 e1 ng PR else exP e1 ng PR]) (H3 := [exO (decide (A < 0)) A.natAbs 1 ea na pa, exO (decide (B1 < 0)) B1.natAbs 1 e1 nb pb, ex0, bif true then exO (decide (A * ((10 ^ k : Nat) : Int) + B1 < 0)) (A * ((10 ^ k : Nat) : Int) + B1).natAbs 1 e1 ng PR else exP e1 ng PR]) (by simp only [hn]) rfl (Zb2 rfl rfl rfl rfl rfl rfl rfl rfl (Nat.le_of_ble_eq_true rfl) rfl)) rfl rfl ?_;refine .nil (fun hG => AOps.fin (n := 4) (as' := []) (H' := [exO (decide (A < 0)) A.natAbs 1 ea na pa, exO (decide (B1 < 0)) B1.natAbs 1 e1 nb pb, ex0, exO (decide (A * ((10 ^ k : Nat) : Int) + B1 < 0)) (A * ((10 ^ k : Nat) : Int) + B1).natAbs 1 e1 ng PR]) rfl rfl rfl ?_);refine go ?_;refine Zns ?_;rfl
def Z5 : List Dt → List D
  | [] => []
  | d :: l => .int .i64 d.fmt :: .int .i64 d.cls :: .bool d.neg :: sln .u32 d.coef :: .int .i64 d.exp :: Z5 l
theorem ZjC : ∀ l : List Dt, (Z5 l).length = l.length * 5
  | [] => rfl
  | p :: l => by simp only [Z5, List.length_cons, ZjC l]; omega
theorem Zil : ∀ (l : List Dt) (i : Nat), (Z5 l).drop (i * 5) = Z5 (l.drop i)
  | l, 0 => by simp
  | [], i + 1 => by simp [Z5]
  | p :: l, i + 1 => by
    rw [show (i + 1) * 5 = i * 5 + 1 + 1 + 1 + 1 + 1 by omega];simp only [Z5, List.drop_succ_cons];exact Zil l i
theorem ZbA {l : List Dt} {i : Nat} (h : i < l.length) : ∃ r, (Z5 l).drop (i * 5) = dtC l[i] ++ r := by
  rw [Zil, List.drop_eq_getElem_cons h];exact ⟨_, rfl⟩
theorem ZaR {l : List Dt} {i : Nat} (h : i < l.length) : Z5 l ≠ [] := fun e => by have := ZjC l; rw [e] at this; simp at this; omega
def idxT (p : Dt → Bool) : List Dt → Nat → Int
  | [], _ => -1
  | d :: ds, i => bif p d then (i : Int) else idxT p ds (i + 1)
theorem ZjD (p : Dt → Bool) : ∀ (ds : List Dt) (i : Nat), decide (idxT p ds i ≥ 0) = ds.any p
  | [], _ => by simp [idxT]
  | d :: ds, i => by
    simp only [idxT, List.any_cons];have ih := ZjD p ds (i + 1)
    by_cases h : p d = true
    · simp [h]
    simp only [Bool.not_eq_true] at h;simp only [h, cond_false, Bool.false_or];exact ih
theorem Zkx (p : Dt → Bool) : ∀ (ds : List Dt) (i : Nat), 0 ≤ idxT p ds i → ∃ k, idxT p ds i = ((i + k : Nat) : Int) ∧ ∃ h : k < ds.length, ds.find? p = some ds[k]
  | [], _, h => by simp [idxT] at h
  | d :: ds, i, h => by
    simp only [idxT] at h ⊢
    by_cases hp : p d = true
    · exact ⟨0, by simp [hp], by simp, by simp [hp]⟩
    simp only [Bool.not_eq_true] at hp;rw [hp, cond_false] at h ⊢;obtain ⟨k, h1, h2, h3⟩ := Zkx p ds (i + 1) h;exact ⟨k + 1, by rw [h1]; omega, by simp; exact h2, by simp [hp]; exact h3⟩
theorem Zka (l : List Dt) (n : Nat) (hn : l.length = n) (f : FuncId) (p : Dt → Bool) (hf : ∀ d ∈ l, PC C f [dtD d] (fun o => o = .ret (.bool (p d)))) : PC C 222 [.sl n (Z5 l), .clos f []] (fun o => o = .ret (.int .i64 (idxT p l 0))) := by
  refine Znr Tryz.func222 Tryz.ntmps222 Tryz.results222 ?_;refine ZnG 0 rfl (fun hlen => ?_);rw [Zy] at hlen;refine go ?_;refine Znw (S := Nat) (fun i : Nat => [(4, .any), (5, .any), (9, .any), (10, .any), (11, .any), (12, .any), (13, .any), (14, .any), (15, .any), (16, .any), (17, .any), (18, .any), (8, .int .i64 (i : Int))]) (fun i : Nat => []) (fun i : Nat => i ≤ n ∧ idxT p (l.drop i) i = idxT p l 0) (fun i : Nat => n - i) (0) ?_ ?_
  · exact ⟨Nat.zero_le _, rfl⟩
  rintro i hinv ih;obtain ⟨hi, he⟩ := hinv;refine go ?_;refine Znp rfl (fun h => ?_) (fun h => ?_)
  · skip
    have hlt : i < l.length := by omega
    have hdr : l.drop i = l[i] :: l.drop (i + 1) := List.drop_eq_getElem_cons hlt;obtain ⟨r, hcd⟩ := ZbA hlt
    have hx : idxT p (l.drop i) i = bif p l[i] then (i : Int) else idxT p (l.drop (i + 1)) (i + 1) := by rw [hdr]; rfl
    refine go ?_;refine Za rfl (Zm rfl rfl rfl rfl (by omega) (by omega) (ZaR hlt) hcd) ?_;refine Za rfl (Ze (ds := dtC l[i]) rfl rfl rfl rfl rfl) ?_;refine Zc rfl rfl (hf l[i] (List.getElem_mem hlt)) ?_;refine AOps.nil ?_;refine ARun.cond rfl (fun hp => ?_) (fun hp => ?_)
    · skip
      refine go ?_;refine Zno ?_;rw [← he, hx, hp]
      try rfl
    refine gn ?_;refine Za rfl (Zf rfl rfl (Zi (by omega))) ?_;refine go ?_;refine ARun.ag (ih ((i + 1)) ?_ ?_)
    · exact ⟨by omega, by rw [← he, hx, hp]; rfl⟩
    omega
  refine ARun.exit rfl ?_;refine go ?_;refine Zno ?_;rw [← he, List.drop_of_length_le (by omega)]
  try rfl
theorem ZkR (l : List Dt) (n : Nat) (hn : l.length = n) (f : FuncId) (p : Dt → Bool) (hf : ∀ d ∈ l, PC C f [dtD d] (fun o => o = .ret (.bool (p d)))) : PC C 223 [.sl n (Z5 l), .clos f []] (fun o => o = .ret (.bool (l.any p))) := by
  refine Znr Tryz.func223 Tryz.ntmps223 Tryz.results223 ?_;refine go ?_;refine Zc rfl rfl (Zka l n hn f p hf) ?_;refine go ?_;refine Zno ?_;rw [ZjD]; try rfl
def isN (d : Dt) : Bool := d.cls == 3 || d.cls == 4
def nanO (l : List Dt) : Option Rs := (l.find? isN).map fun d => ⟨{ d with cls := 3 }, if l.any (fun d => d.cls == 4) then 1 else 0⟩
def rsZ : Rs := ⟨⟨0, 0, false, [], 0⟩, 0⟩
theorem Zkb (l : List Dt) (n : Nat) (hn : l.length = n) (hl : ∀ d ∈ l, d.coef.length ≤ 35184372088832) : PC C 146 [.sl n (Z5 l)] (fun o => o = .ret (.tup [rsD ((nanO l).getD rsZ), .bool (nanO l).isSome])) := by
  have hI := Zka l n hn 118 isN (fun d _ => Zdo d);have hA := ZjD isN l 0;refine Znr Tryz.func146 Tryz.ntmps146 Tryz.results146 ?_;refine go ?_;refine Zc rfl rfl (hI) ?_;refine go ?_;refine Znp rfl (fun h => ?_) (fun h => ?_)
  · skip
    have h0 : nanO l = none := by
      have : l.any isN = false := by rw [← hA]; exact decide_eq_false (by omega)
      unfold nanO;rw [List.find?_eq_none.2 (fun x hx hp => by have := List.any_eq_false.1 this x hx; exact this hp)]; rfl
    refine go ?_;refine ARun.ret ?_;refine ⟨_, _, _, Znt rfl rfl rfl rfl rfl rfl (.tmp rfl .nil), .cons (ZfY 0 0 false 0 0) (.cons (.same _) .nil), rfl, ?_⟩;rw [h0]; rfl
  obtain ⟨k, h1, h2, h3⟩ := Zkx isN l 0 (by omega);rw [Nat.zero_add] at h1;obtain ⟨r, hcd⟩ := ZbA h2
  have hN : nanO l = some ⟨{ l[k] with cls := 3 }, if l.any (fun d => d.cls == 4) then 1 else 0⟩ := by unfold nanO; rw [h3]; rfl
  refine go ?_;refine Za rfl (Zm (ds := dtC l[k] ++ r) rfl rfl rfl rfl (by omega) (by omega) (ZaR h2) (by rw [h1, Int.toNat_natCast]; exact hcd)) ?_;refine Za rfl (Ze (ds := dtC l[k]) rfl rfl rfl rfl rfl) ?_;refine Zc rfl rfl (Zbg l[k] (hl _ (List.getElem_mem h2))) ?_;refine go ?_;refine Zc rfl rfl (ZkR l n hn 224 (fun d => d.cls == 4) (fun d _ => ZlV d)) ?_;refine AOps.nil ?_;refine ARun.cond rfl (fun h4 => ?_) (fun h4 => ?_)
  · skip
    refine go ?_;refine ARun.ret ?_;refine ⟨_, _, _, Znt rfl rfl rfl rfl rfl rfl (.tmp rfl .nil), .cons (.same _) (.cons (.same _) .nil), rfl, ?_⟩;rw [hN, h4]; rfl
  refine go ?_;refine ARun.ret ?_;refine ⟨_, _, _, Znt rfl rfl rfl rfl rfl rfl (.tmp rfl .nil), .cons (.same _) (.cons (.same _) .nil), rfl, ?_⟩;rw [hN, h4]; rfl
abbrev prmD (f : Int) : D := .agg [.int .i64 (fP f : Nat), .int .i64 (fLo f), .int .i64 (fHi f)]
theorem ZfB (f : Int) : PC C 90 [.int .i64 f] (fun o => o = .ret (prmD f)) := by
  refine Znr Tryz.func90 Tryz.ntmps90 Tryz.results90 ?_;refine go ?_;refine ARun.cond rfl (fun h => ?_) (fun h => ?_)
  · skip
    obtain rfl : f = 6 := by simpa using h
    refine go ?_;refine Zns ?_;rfl
  have h : ¬ f = 6 := by simpa using h
  refine go ?_;refine ARun.cond rfl (fun h2 => ?_) (fun h2 => ?_)
  · skip
    obtain rfl : f = 7 := by simpa using h2
    refine go ?_;refine Zns ?_;rfl
  have h2 : ¬ f = 7 := by simpa using h2
  refine go ?_;refine Zns ?_;unfold prmD fP fLo fHi; rw [if_neg h, if_neg h2, if_neg h, if_neg h2, if_neg h, if_neg h2]; try rfl
theorem Zi5 (f : Int) : PC C 148 [.int .i64 f] (fun o => o = .ret (.bool (decide (6 ≤ f) && decide (f ≤ 8)))) := by
  refine Znr Tryz.func148 Tryz.ntmps148 Tryz.results148 ?_;refine zzs ?_; refine zza ?_; refine zzt ?_; refine Zr ?_; refine zzi ?_; refine Zr ?_;apply Znu 5 (fun sj1 => [(5, .any), (6, .any), (7, .any), (8, .bool sj1)]) rfl
  · intro hj1 run1
    try replace hj1 := Zh hj1
    refine Zr ?_; refine zzi ?_; refine ZK ?_;exact AOps.ag run1
  · intro hj1 run1
    try replace hj1 := Zj hj1
    refine Zg ?_; refine Zg ?_; refine ZK ?_;exact AOps.ag run1
  refine go ?_;refine Zno ?_;rfl
theorem Zlq (f : Int) : PC C 41 [.int .i64 f] (fun o => o = .ret (.bool (decide (1 ≤ f) && decide (f ≤ 5)))) := by
  refine Znr Tryz.func41 Tryz.ntmps41 Tryz.results41 ?_;refine zzs ?_; refine zza ?_; refine zzt ?_; refine Zr ?_; refine zzi ?_; refine Zr ?_;apply Znu 5 (fun sj1 => [(5, .any), (6, .any), (7, .any), (8, .bool sj1)]) rfl
  · intro hj1 run1
    try replace hj1 := Zh hj1
    refine Zr ?_; refine zzi ?_; refine ZK ?_;exact AOps.ag run1
  · intro hj1 run1
    try replace hj1 := Zj hj1
    refine Zg ?_; refine Zg ?_; refine ZK ?_;exact AOps.ag run1
  refine go ?_;refine Zno ?_;rfl
theorem ZcS (d : Dt) : PC C 44 [dtD d] (fun o => o = .ret (.bool (isN d))) := by
  refine Znr Tryz.func44 Tryz.ntmps44 Tryz.results44 ?_;refine go ?_;refine zzb ?_; refine zza ?_; refine zzt ?_; refine zzf ?_; refine zzl ?_; refine zzi ?_; refine Zr ?_;apply ZnB 6 (fun sj1 => [(6, .any), (7, .any), (8, .any), (9, .any), (10, .bool sj1)]) rfl
  · intro hj1 run1
    try replace hj1 := Zh hj1
    refine Zg ?_; refine Zg ?_; refine Zg ?_; refine ZK ?_;exact AOps.ag run1
  · intro hj1 run1
    try replace hj1 := Zj hj1
    refine zzf ?_; refine zzl ?_; refine zzi ?_; refine ZK ?_;exact AOps.ag run1
  refine go ?_;refine Zno ?_;rfl
theorem ZdM (a : Nat) (ha : (lim a).length ≤ 1024) : PC C 63 [numD a] (fun o => o = .ret (.int .i64 ((tx a).length : Nat))) := by
  refine Znr Tryz.func63 Tryz.ntmps63 Tryz.results63 ?_;refine go ?_;refine Zc rfl rfl (Zj7 a ha) ?_;refine Za rfl (ZiP rfl rfl) ?_;refine go ?_;refine Zno ?_;rw [Zfl]; try rfl
theorem ZfC (a k : Nat) (ha : (lim a).length ≤ 1024) : PC C 120 [numD a, .int .i64 (k : Int)] (fun o => o = .ret (.bool (decide (a < 10 ^ k)))) := by
  refine Znr Tryz.func120 Tryz.ntmps120 Tryz.results120 ?_;refine zzs ?_; refine zza ?_; refine zzt ?_; refine Zr ?_; refine zzN ?_; refine zzi ?_; refine Zr ?_;refine AOps.bool 8 rfl (fun h => ?_) (fun h => ?_)
  · skip
    have h0 : a = 0 := by
      rcases Nat.eq_zero_or_pos a with h0 | h0
      · exact h0
      have h : (((lim a).length : Nat) : Int) = 0 := by simpa using h
      have := ZB.2 (show a ≠ 0 by omega); omega
    refine go ?_;refine Zno ?_;rw [decide_eq_true (show a < 10 ^ k by rw [h0]; exact Nat.pow_pos (Nat.succ_pos 9))]; try rfl
  have h0 : 0 < a := by
    have h : ¬ (((lim a).length : Nat) : Int) = 0 := by simpa using h
    rcases Nat.eq_zero_or_pos a with h0 | h0
    · rw [h0, Za9] at h; omega
    exact h0
  have e : decide ((((tx a).length : Nat) : Int) ≤ (k : Int)) = decide (a < 10 ^ k) := decide_eq_decide.2 (by rw [Zjz h0, ← Zgw]; omega);refine Zr ?_;refine Zc rfl rfl (ZdM a ha) ?_;refine go ?_;refine Zno ?_;rw [← e]; try rfl
theorem ZbS (n : Nat) (hn : n ≤ 9799) : PC C 93 [.int .i64 (n : Int)] (fun o => o = .ret (numD (10 ^ n))) := by
  refine Znr Tryz.func93 Tryz.ntmps93 Tryz.results93 ?_;refine gn ?_;refine Za rfl (Znq (Zd rfl rfl rfl rfl rfl rfl rfl rfl rfl rfl rfl (by decide) (by decide) rfl) ZO) ?_;refine go ?_;refine Znw (S := Nat) (fun i : Nat => [(6, .any), (7, .any), (8, .any), (9, .any), (10, .any), (11, .any), (12, .any), (3, numD (10 ^ i)), (4, .int .i64 (i : Int))]) (fun i : Nat => []) (fun i : Nat => i ≤ n) (fun i : Nat => n - i) (0) ?_ ?_
  · exact Nat.zero_le _
  rintro i hinv ih;refine go ?_;refine Znp rfl (fun h => ?_) (fun h => ?_)
  · skip
    have hs : PC C 170 [numD (10 ^ i), .int .u64 0] (fun o => o = .ret (numD (10 ^ (i + 1)))) := (Zms (10 ^ i) 0 (by have := fitT (n := i) (by omega); omega) (by omega)).mono fun o ho => by rw [ho, Nat.add_zero, Nat.pow_succ, Nat.mul_comm]
    refine go ?_;refine Zc rfl rfl (hs) ?_;refine gn ?_;refine Za rfl (Zf rfl rfl (Zi (by omega))) ?_;refine go ?_;refine ARun.ag (ih ((i + 1)) ?_ ?_)
    · omega
    omega
  have : i = n := by omega
  subst this;refine ARun.exit rfl ?_;refine go ?_;refine Zno ?_;rfl
theorem ZdN (f : Int) (neg : Bool) (xs : List Nat) (q : Int) : PC C 89 [.int .i64 f, .bool neg, sln .u32 xs, .int .i64 q] (fun o => o = .ret (dtD ⟨f, 1, neg, xs, q⟩)) := by
  refine Znr Tryz.func89 Tryz.ntmps89 Tryz.results89 ?_;refine go ?_;refine Zns ?_;rfl
theorem Zes (f : Int) (neg : Bool) (q : Int) : PC C 89 [.int .i64 f, .bool neg, .nilsl, .int .i64 q] (fun o => o = .ret (dtD ⟨f, 1, neg, [], q⟩)) := by
  refine Znr Tryz.func89 Tryz.ntmps89 Tryz.results89 ?_;refine go ?_;refine ARun.ret ?_;refine ⟨_, _, _, Znt rfl rfl rfl rfl rfl rfl .nil, .cons (fz_dt f 1 neg q) .nil, rfl, ?_⟩;rfl
abbrev ZfZ (r : Rs) (e : Int) : D := .agg [.int .i64 r.dt.fmt, .int .i64 r.dt.cls, .bool r.dt.neg, sln .u32 r.dt.coef, .int .i64 r.dt.exp, .int .i64 r.fl, .int .i64 e]
theorem Zv (r : Rs) : PC C 73 [rsD r] (fun o => o = .ret (ZfZ r 0)) := by
  refine Znr Tryz.func73 Tryz.ntmps73 Tryz.results73 ?_;refine go ?_;refine zzb ?_;refine go ?_;refine Zns ?_;rfl
theorem Zbx (f : Int) (neg : Bool) : PC C 75 [.int .i64 f, .bool neg] (fun o => o = .ret (rsD ⟨infD f neg, 0⟩)) := by
  refine Znr Tryz.func75 Tryz.ntmps75 Tryz.results75 ?_;refine go ?_;refine ARun.ret ?_;refine ⟨_, _, _, Znt rfl rfl rfl rfl rfl rfl .nil, .cons (ZfY f 2 neg 0 0) .nil, rfl, ?_⟩;rfl
theorem ZaY (f : Int) : PC C 74 [.int .i64 f] (fun o => o = .ret (rsD ⟨⟨f, 3, false, [], 0⟩, 1⟩)) := by
  refine Znr Tryz.func74 Tryz.ntmps74 Tryz.results74 ?_;refine go ?_;refine ARun.ret ?_;refine ⟨_, _, _, Znt rfl rfl rfl rfl rfl rfl .nil, .cons (ZfY f 3 false 0 1) .nil, rfl, ?_⟩;rfl
theorem Zh8 (n lo hi : Int) : PC C 161 [.int .i64 n, .int .i64 lo, .int .i64 hi] (fun o => o = .ret (.int .i64 (min (max n lo) hi))) := by
  refine Znr Tryz.func161 Tryz.ntmps161 Tryz.results161 ?_;refine gn ?_;refine Za rfl (Zif rfl rfl) ?_;refine Zr ?_;refine Za rfl (Zgt rfl rfl) ?_;refine go ?_;refine Zno ?_;rfl
theorem ZkS (a b z : Bool) (dir : Int) : PC C 51 [.bool a, .bool b, .bool z, .int .i64 dir] (fun o => o = .ret (.bool (if z && (a == b) then a else dir == 5))) := by
  refine Znr Tryz.func51 Tryz.ntmps51 Tryz.results51 ?_;refine zzs ?_; refine zza ?_; refine AOps.nil (ARun.seq (zzs ?_)); refine Zr ?_; refine Zr ?_;apply Znu 10 (fun sj1 => [(10, .any), (11, .any), (12, .any), (13, .any), (14, .bool sj1)]) rfl
  · intro hj1 run1
    try replace hj1 := Zh hj1
    refine gn ?_;refine Za rfl (Zdm rfl rfl rfl) ?_;refine ZK ?_;exact AOps.ag run1
  · intro hj1 run1
    try replace hj1 := Zj hj1
    refine Zg ?_; refine Zg ?_; refine Zg ?_; refine ZK ?_;exact AOps.ag run1
  refine AOps.nil ?_;refine ARun.cond rfl (fun h => ?_) (fun h => ?_)
  · skip
    refine go ?_;refine Zno ?_;rw [if_pos h]; try rfl
  refine go ?_;refine Zno ?_;rw [if_neg (by rw [h]; decide)]; try rfl
structure Nu where
  neg : Bool
  c : Nat
  e : Int
  more : Bool
abbrev nuD (x : Nu) : D := .agg [.bool x.neg, numD x.c, .int .i64 x.e, .bool x.more]
theorem ZdO (d : Dt) (n : Nat) (h : d.coef = lim n) : PC C 77 [dtD d] (fun o => o = .ret (nuD ⟨d.neg, n, d.exp, false⟩)) := by
  obtain ⟨f, c, neg, xs, e⟩ := d;obtain rfl : xs = lim n := h;refine Znr Tryz.func77 Tryz.ntmps77 Tryz.results77 ?_;refine go ?_;refine zzb ?_;refine go ?_;refine Zns ?_;rfl
theorem ZmZ (neg odd : Bool) (half dir : Int) : PC C 264 [.bool neg, .bool odd, .int .i64 half, .bool true, .int .i64 dir] (fun o => o = .ret (.bool (dirB dir neg odd half))) := by
  refine Znr Tryz.func264 Tryz.ntmps264 Tryz.results264 ?_;refine go ?_;refine ARun.cond rfl (fun h1 => ?_) (fun h1 => ?_)
  · skip
    obtain rfl : dir = 1 := by simpa using h1
    refine zzs ?_; refine Zr ?_; refine zzi ?_; refine Zr ?_;apply ZnB 16 (fun sj1 => [(16, .any), (17, .any), (18, .any), (19, .any), (20, .any), (21, .any), (22, .bool sj1)]) rfl
    · intro hj1 run1
      try replace hj1 := Zh hj1
      refine Zg ?_; refine Zg ?_; refine Zg ?_; refine Zg ?_; refine Zg ?_; refine ZK ?_;exact AOps.ag run1
    · intro hj1 run1
      try replace hj1 := Zj hj1
      refine Zr ?_; refine zzi ?_; refine Zr ?_;apply Znu 19 (fun sj2 => [(19, .any), (20, .any), (21, .bool sj2)]) rfl
      · intro hj2 run2
        try replace hj2 := Zh hj2
        refine Zr ?_; refine ZK ?_;exact AOps.ag run2
      · intro hj2 run2
        try replace hj2 := Zj hj2
        refine Zg ?_; refine ZK ?_;exact AOps.ag run2
      refine ZK ?_;exact AOps.ag run1
    refine go ?_;refine Zno ?_;rfl
  have h1 : ¬ dir = 1 := by simpa using h1
  refine go ?_;refine ARun.cond rfl (fun h2 => ?_) (fun h2 => ?_)
  · skip
    obtain rfl : dir = 2 := by simpa using h2
    refine go ?_;refine Zno ?_;rfl
  have h2 : ¬ dir = 2 := by simpa using h2
  refine go ?_;refine ARun.cond rfl (fun h4 => ?_) (fun h4 => ?_)
  · skip
    obtain rfl : dir = 4 := by simpa using h4
    refine zzs ?_; refine Zr ?_; refine Zr ?_;apply Znu 30 (fun sj3 => [(30, .any), (31, .any), (32, .any), (33, .bool sj3)]) rfl
    · intro hj3 run3
      try replace hj3 := Zh hj3
      refine Zr ?_; refine zzn ?_; refine ZK ?_;exact AOps.ag run3
    · intro hj3 run3
      try replace hj3 := Zj hj3
      refine Zg ?_; refine Zg ?_; refine ZK ?_;exact AOps.ag run3
    refine go ?_;refine Zno ?_;rfl
  have h4 : ¬ dir = 4 := by simpa using h4
  refine go ?_;refine ARun.cond rfl (fun h5 => ?_) (fun h5 => ?_)
  · skip
    obtain rfl : dir = 5 := by simpa using h5
    refine zzs ?_; refine Zr ?_; refine Zr ?_;apply Znu 37 (fun sj4 => [(37, .any), (38, .any), (39, .bool sj4)]) rfl
    · intro hj4 run4
      try replace hj4 := Zh hj4
      refine Zr ?_; refine ZK ?_;exact AOps.ag run4
    · intro hj4 run4
      try replace hj4 := Zj hj4
      refine Zg ?_; refine ZK ?_;exact AOps.ag run4
    refine go ?_;refine Zno ?_;rfl
  have h5 : ¬ dir = 5 := by simpa using h5
  refine go ?_;refine Zno ?_;unfold dirB; rw [if_neg h1, if_neg h2, if_neg h4, if_neg h5]; try rfl
theorem Zi6 (f : Int) (neg : Bool) (dir : Int) (hd : isDir dir) : PC C 163 [.int .i64 f, .bool neg, .int .i64 dir] (fun o => o = .ret (rsD (ovf f neg dir))) := by
  have hp := ZW f;have hl : 1 ≤ 10 ^ fP f := Nat.pow_pos (by omega)
  have hu : ((dir == 3) || ((dir == 4) && neg) || ((dir == 5) && !neg)) = !(dirB dir neg true 1) := by
    rcases hd.cases with rfl | rfl | rfl | rfl | rfl <;> cases neg <;> rfl
  refine Znr Tryz.func163 Tryz.ntmps163 Tryz.results163 ?_;refine go ?_;refine Zc rfl rfl (ZfB f) ?_;refine ZI rfl rfl rfl rfl rfl rfl rfl rfl rfl rfl rfl ?_;refine zzt ?_; refine zza ?_; refine AOps.nil (ARun.seq (zzs ?_)); refine Zr ?_; refine zzi ?_; refine Zr ?_;apply ZnB 13 (fun sj1 => [(13, .any), (14, .any), (15, .any), (16, .any), (17, .any), (18, .any), (19, .bool sj1)]) rfl
  · intro hj1 run1
    try replace hj1 := Zh hj1
    refine Zg ?_; refine Zg ?_; refine Zg ?_; refine Zg ?_; refine Zg ?_; refine ZK ?_;exact AOps.ag run1
  · intro hj1 run1
    try replace hj1 := Zj hj1
    refine Zr ?_; refine zzi ?_; refine Zr ?_;apply Znu 16 (fun sj2 => [(16, .any), (17, .any), (18, .bool sj2)]) rfl
    · intro hj2 run2
      try replace hj2 := Zh hj2
      refine Zr ?_; refine ZK ?_;exact AOps.ag run2
    · intro hj2 run2
      try replace hj2 := Zj hj2
      refine Zg ?_; refine ZK ?_;exact AOps.ag run2
    refine ZK ?_;exact AOps.ag run1
  refine Zr ?_;apply ZnB 20 (fun sj3 => [(20, .any), (21, .any), (22, .any), (23, .any), (24, .any), (25, .any), (26, .any), (27, .bool sj3)]) rfl
  · intro hj3 run3
    try replace hj3 := Zh hj3
    refine Zg ?_; refine Zg ?_; refine Zg ?_; refine Zg ?_; refine Zg ?_; refine Zg ?_; refine ZK ?_;exact AOps.ag run3
  · intro hj3 run3
    try replace hj3 := Zj hj3
    refine Zr ?_; refine zzi ?_; refine Zr ?_;apply Znu 23 (fun sj4 => [(23, .any), (24, .any), (25, .any), (26, .bool sj4)]) rfl
    · intro hj4 run4
      try replace hj4 := Zh hj4
      refine Zr ?_; refine zzn ?_; refine ZK ?_;exact AOps.ag run4
    · intro hj4 run4
      try replace hj4 := Zj hj4
      refine Zg ?_; refine Zg ?_; refine ZK ?_;exact AOps.ag run4
    refine ZK ?_;exact AOps.ag run3
  refine AOps.nil ?_;refine ARun.cond rfl (fun h => ?_) (fun h => ?_)
  · skip
    have h : dirB dir neg true 1 = false := by rw [hu] at h; simpa using h
    refine ARun.seq ?_;refine zdr 12 mixC ?_;refine gd ?_;refine .op rfl (Zb rfl rfl (ZbS (fP f) (by omega))) ?_;refine .op rfl (Znq (Zd rfl rfl rfl rfl rfl rfl rfl rfl rfl rfl rfl (by decide) (by decide) rfl) ZO) ?_;refine .op rfl (Zb rfl rfl (ZeL (10 ^ fP f) 1 (by have := fitT (n := fP f) (by omega); omega) hl)) ?_;refine gd ?_;refine .op rfl (Zb rfl rfl (ZdN f neg (lim (10 ^ fP f - 1)) (fHi f))) ?_;refine zdm ?_;refine .op rfl (Zal rfl rfl rfl rfl rfl) ?_;refine .nil (fun hG => ?_);refine go ?_;refine Zns ?_;unfold ovf; rw [if_neg (by rw [h]; decide)]; try rfl
  have h : dirB dir neg true 1 = true := by rw [hu] at h; simpa using h
  refine go ?_;refine ARun.ret ?_;refine ⟨_, _, _, Znt rfl rfl rfl rfl rfl rfl .nil, .cons (ZfY f 2 neg 0 20) .nil, rfl, ?_⟩;unfold ovf; rw [if_pos h]; rfl
theorem bytes_get {l : List Nat} {i x : Nat} (h : l[i]? = some x) (hx : x < 256) (hi : i < (ZbV l).size) : ((ZbV l)[i]'hi).toNat = x := by
  have h1 : i < l.length := by rw [Zfl] at hi; exact hi
  rw [List.getElem?_eq_getElem h1] at h
  injection h with h
  show (((l.map UInt8.ofNat).toArray)[i]'(by simpa using h1)).toNat = x;simp [h]; omega
theorem IsZ.ex : ∀ {a : Nat}, 0 < a → ∃ z, IsZ a z := by
  intro a
  induction a using Nat.strongRecOn with
  | _ a ih =>
    intro h
    by_cases h1 : a % 10 = 0
    · obtain ⟨z, h2, h3⟩ := ih (a / 10) (by omega) (by omega)
      refine ⟨z + 1, ?_, ?_⟩
      · rw [Nat.pow_succ, Nat.mul_comm, Nat.mod_mul, h1, h2]
      rw [Nat.pow_succ, Nat.mul_comm, Nat.mod_mul, h1]; omega
    exact ⟨0, by rw [Nat.pow_zero, Nat.mod_one], by rw [Nat.zero_add, Nat.pow_one]; exact h1⟩
theorem IsZ.lt {a z : Nat} (h : IsZ a z) (ha : 0 < a) : z < dl a := by
  rcases Nat.lt_or_ge z (dl a) with h1 | h1
  · exact h1
  have h2 := h.dvd.2 h1;rw [Nat.mod_eq_of_lt (lt_dl a)] at h2; omega
theorem Zlr (a z : Nat) (ha : (lim a).length ≤ 1024) (h0 : 0 < a) (hz : IsZ a z) : PC C 162 [numD a, .int .i64 (dl a : Nat)] (fun o => o = .ret (.int .i64 (z : Int))) := by
  have hfit : dl a ≤ 32768 := by rw [← ZgO]; exact dgs_fit (by omega) ha
  have hsz : (ZbV (tx a)).size = dl a := by rw [Zfl, Zjz h0]
  refine Znr Tryz.func162 Tryz.ntmps162 Tryz.results162 ?_;refine go ?_;refine Zc rfl rfl (Zj7 a ha) ?_;refine go ?_;refine Znw (S := Nat) (fun n : Nat => [(9, .any), (10, .any), (11, .any), (12, .any), (13, .any), (14, .any), (15, .any), (16, .any), (17, .any), (18, .any), (19, .any), (20, .any), (21, .any), (22, .any), (23, .any), (24, .any), (25, .any), (26, .any), (27, .any), (28, .any), (29, .any), (6, .int .i64 (n : Int))]) (fun n : Nat => []) (fun n : Nat => a % 10 ^ n = 0) (fun n : Nat => dl a - n) (0) ?_ ?_
  · exact (by rw [Nat.pow_zero, Nat.mod_one])
  rintro n hinv ih;have hn : n ≤ z := hz.dvd.1 hinv;have hlt : n < dl a := Nat.lt_of_le_of_lt hn (hz.lt h0);have hg := tx_get hlt
  have hd10 : 48 + a / 10 ^ n % 10 < 256 := by omega
  have hs : a % 10 ^ (n + 1) = 0 ↔ a / 10 ^ n % 10 = 0 := by
    rw [Nat.pow_succ, Nat.mod_mul, hinv, Nat.zero_add]
    constructor
    · intro h
      rcases Nat.mul_eq_zero.1 h with h | h
      · have := Nat.pow_pos (n := n) (show 0 < 10 by omega); omega
      exact h
    intro h; rw [h, Nat.mul_zero]
  refine gn ?_;refine Za rfl (Znq (d' := .bool true) (Zaa rfl rfl rfl) (congrArg D.bool (decide_eq_true (by omega)))) ?_;refine go ?_;refine Za rfl (ZiP rfl rfl) ?_;refine Za rfl (Znq (d' := .bool true) (Zaa rfl rfl rfl) (congrArg D.bool (decide_eq_true (by rw [hsz]; omega)))) ?_;refine go ?_;refine Za rfl (ZiP rfl rfl) ?_;refine Za rfl (Zk rfl rfl (show _ = ((dl a - 1 : Nat) : Int) by rw [IntWalk.i64_in _ (by rw [hsz]; omega), hsz]; omega)) ?_;refine Zr ?_;refine Za rfl (Zk rfl rfl (show _ = ((dl a - 1 - n : Nat) : Int) by rw [IntWalk.i64_in _ (by omega)]; omega)) ?_;refine Za rfl (ZeH rfl rfl rfl (by omega) (by rw [hsz]; omega) (congrArg Int.ofNat (bytes_get hg hd10 (by rw [hsz]; omega)))) ?_;refine go ?_;refine ARun.cond rfl (fun hc => ?_) (fun hc => ?_)
  · skip
    have hc : a / 10 ^ n % 10 = 0 := by
      have hc : ((48 + a / 10 ^ n % 10 : Nat) : Int) = 48 := by simpa using hc
      omega
    refine gn ?_;refine Za rfl (Zf rfl rfl (Zi (by omega))) ?_;refine go ?_;refine ARun.ag (ih ((n + 1)) ?_ ?_)
    · exact hs.2 hc
    omega
  have hc : ¬ a / 10 ^ n % 10 = 0 := by
    have hc : ¬ ((48 + a / 10 ^ n % 10 : Nat) : Int) = 48 := by simpa using hc
    omega
  have e : n = z := by
    rcases Nat.lt_or_ge n z with h1 | h1
    · exact absurd (hs.1 (hz.dvd.2 h1)) hc
    omega
  refine ARun.exit rfl ?_;refine go ?_;refine Zno ?_;rw [e]; try rfl
theorem lenpos {n : Nat} : decide ((((lim n).length : Nat) : Int) > 0) = decide (n ≠ 0) := by
  have := ZB (n := n);exact decide_eq_decide.2 (by omega)
theorem ZhG (neg : Bool) (a r t : Nat) (more : Bool) (dir : Int) (ha : (lim a).length ≤ 1024) (hr : (lim r).length ≤ 1024) (ht : (lim t).length ≤ 1024) :
    PC C 200 [.bool neg, numD a, numD r, numD t, .bool more, .int .i64 dir] (fun o => o = .ret (.tup [numD (rnd dir neg (a, decide (r ≠ 0) || more, if cmpI (2 * r) t = 0 ∧ more = true then 1 else cmpI (2 * r) t)), .bool (decide (r ≠ 0) || more)])) := by
  have hrr := Zev r r
  have hc2 : cmpI (r + r) t = cmpI (2 * r) t := by rw [Nat.two_mul]
  obtain ⟨rest, hrest⟩ : ∃ b, b = (decide (r ≠ 0) || more) := ⟨_, rfl⟩;obtain ⟨h, hh⟩ : ∃ h : Int, h = if cmpI (2 * r) t = 0 ∧ more = true then 1 else cmpI (2 * r) t := ⟨_, rfl⟩;rw [← hrest, ← hh];refine Znr Tryz.func200 Tryz.ntmps200 Tryz.results200 ?_;refine zzs ?_; refine zza ?_; refine zza ?_; refine zzt ?_; refine Zr ?_; refine zzN ?_; refine zzi ?_; refine Zr ?_;apply ZnB 20 (fun sj1 => [(20, .any), (21, .any), (22, .bool sj1)]) rfl
  · intro hj1 run1
    try replace hj1 := Zh hj1
    refine Zg ?_; refine ZK ?_;exact AOps.ag run1
  · intro hj1 run1
    try replace hj1 := Zj hj1
    refine Zr ?_; refine ZK ?_;exact AOps.ag run1
  refine go ?_;refine Zc rfl rfl (Zfz r r (by omega) (by omega)) ?_;refine Zr ?_;refine Zc rfl rfl (ZeK (r + r) t (by omega) (by omega)) ?_;refine zza ?_; refine AOps.nil (ARun.seq (zzs ?_)); refine Zr ?_; refine zzi ?_; refine Zr ?_;apply Znu 30 (fun sj2 => [(30, .any), (31, .any), (32, .bool sj2)]) rfl
  · intro hj2 run2
    try replace hj2 := Zh hj2
    refine Zr ?_; refine ZK ?_;exact AOps.ag run2
  · intro hj2 run2
    try replace hj2 := Zj hj2
    refine Zg ?_; refine ZK ?_;exact AOps.ag run2
  refine AOps.nil ?_;refine Zny (S := Int) (fun h1 : Int => [(15, .int .i64 h1)]) (fun h1 : Int => h1 = h) (fun run => ?_) ?_
  · skip
    refine ARun.cond rfl (fun c => ?_) (fun c => ?_)
    · skip
      refine ARun.region ?_; refine zza ?_; refine AOps.nil ?_;exact ARun.ag (run (1) (by rw [hh, if_pos (by rw [hc2] at c; simpa using c)]))
    refine ARun.skip ?_;exact ARun.ag (run (cmpI (r + r) t) (by rw [hc2] at c; rw [hh, hc2, if_neg (fun h3 => by rw [show (cmpI (2 * r) t == 0) = true by simp [h3.1], h3.2] at c; cases c)]))
  rintro h1 hj
  try dsimp only at hj ⊢
  subst hj;refine ARun.seq ?_;refine Zny (S := Bool) (fun o : Bool => [(33, .any), (34, .any), (35, .any), (36, .any), (37, .any), (38, .any), (39, .any), (40, .any), (41, .any), (42, .any), (16, .bool o)]) (fun o : Bool => o = decide (a % 2 = 1)) (fun run => ?_) ?_
  · rcases Nat.eq_zero_or_pos a with h0 | h0
    · subst h0
      refine gn ?_;refine Za rfl (Znq (d' := .bool false) (Zaa rfl rfl rfl) (congrArg D.bool (decide_eq_false (by rw [Za9]; decide)))) ?_;refine Zr ?_; refine Zg ?_; refine Zg ?_; refine Zg ?_; refine Zg ?_; refine Zg ?_; refine ZK ?_; refine zza ?_; refine AOps.nil ?_;exact ARun.ag (run (false) (rfl))
    obtain ⟨s, hs⟩ := ZeU h0;have hl : 0 < (lim a).length := ZB.2 (by omega);have hm := ZjB a;refine gn ?_;refine Za rfl (Znq (d' := .bool true) (Zaa rfl rfl rfl) (congrArg D.bool (decide_eq_true (by omega)))) ?_;refine go ?_;refine Za rfl (Zm rfl rfl rfl rfl (by omega) (by omega) (by rw [hs]; simp) (by rw [hs])) ?_;refine zzl ?_;refine Za rfl (Zdt rfl rfl (by omega) (nrem (n := 2) rfl)) ?_;refine zzi ?_; refine ZK ?_; refine zza ?_; refine AOps.nil ?_;exact ARun.ag (run (((((a % B % 2 : Nat) : Int) == 1))) ((decide_eq_decide.2 (by omega) : decide ((((a % B % 2 : Nat) : Int) = 1)) = decide (a % 2 = 1))))
  rintro o hj
  try dsimp only at hj ⊢
  subst hj;rw [lenpos];rw [← hrest];refine ARun.seq (ARun.seq ?_);refine Zny (S := Bool) (fun u : Bool => [(43, .any), (44, .any), (45, .any), (46, .any), (47, .any), (48, .any), (49, .any), (50, .any), (51, .bool u)]) (fun u : Bool => u = (rest && dirB dir neg (decide (a % 2 = 1)) h1)) (fun run => ?_) ?_
  · cases rest with
    | false =>
      skip
      refine ARun.region ?_; refine Zr ?_; refine Zr ?_; refine Zg ?_; refine Zg ?_; refine Zg ?_; refine Zg ?_; refine Zg ?_; refine Zg ?_; refine ZK ?_; refine AOps.nil ?_;exact ARun.ag (run (false) (rfl))
    | true =>
      skip
      refine go ?_;refine Zc rfl rfl (ZmZ neg (decide (a % 2 = 1)) h1 dir) ?_;refine ZK ?_; refine AOps.nil ?_;exact ARun.ag (run (dirB dir neg (decide (a % 2 = 1)) h1) (rfl))
  rintro u hj
  try dsimp only at hj ⊢
  refine ARun.cond rfl (fun hu => ?_) (fun hu => ?_)
  · skip
    refine gn ?_;refine Za rfl (Znq (Zd rfl rfl rfl rfl rfl rfl rfl rfl rfl rfl rfl (by decide) (by decide) rfl) ZO) ?_;refine Zc rfl rfl (Zfz a 1 (by omega) (by rw [Zbl]; decide)) ?_;refine go ?_;refine ZnA ?_;unfold rnd; rw [if_pos (by rw [← hj]; exact hu)]; try rfl
  refine go ?_;refine ZnA ?_;unfold rnd; rw [if_neg (by rw [← hj, hu]; decide)]; try rfl
theorem ZlW {e q : Int} : ((nmOf 0 e false).at q) = (0, false, -1) := by
  have : (nmOf 0 e false).at q = pc (0 * tt (e - q)) (1 * tt (q - e)) := rfl;rw [this, Nat.zero_mul];unfold pc;rw [Nat.zero_div, Nat.zero_mod, Nat.mul_zero];have h1 := ZcK (q - e)
  have : cmpI 0 (1 * tt (q - e)) = -1 := by unfold cmpI; rw [if_pos (by omega)]
  rw [this]; rfl
theorem ZhH (x : Nu) (q dir : Int) (hm : x.more = true → x.e < q ∧ 0 < x.c) (hc : x.c < 10 ^ 3000) (he : -200000 ≤ x.e ∧ x.e ≤ 200000) (hq : -200000 ≤ q ∧ q ≤ 200000) (hu : x.e - q ≤ 1000) :
    PC C 119 [nuD x, .int .i64 q, .int .i64 dir] (fun o => o = .ret (.tup [numD (rnd dir x.neg ((nmOf x.c x.e x.more).at q)), .bool ((nmOf x.c x.e x.more).at q).2.1])) := by
  obtain ⟨neg, c, e, more⟩ := x;replace hm : more = true → e < q ∧ 0 < c := hm;replace hc : c < 10 ^ 3000 := hc;replace he : -200000 ≤ e ∧ e ≤ 200000 := he;replace hu : e - q ≤ 1000 := hu;have lc := fitW hc (by omega);have hdl := dl_fit hc;show PC C 119 [.agg [.bool neg, numD c, .int .i64 e, .bool more], .int .i64 q, .int .i64 dir] (fun o => o = .ret (.tup [numD (rnd dir neg ((nmOf c e more).at q)), .bool ((nmOf c e more).at q).2.1]));refine Znr Tryz.func119 Tryz.ntmps119 Tryz.results119 ?_;refine go ?_;refine zzb ?_; refine zza ?_; refine zza ?_; refine AOps.nil (ARun.seq (zzs ?_)); refine zzf ?_; refine zzl ?_; refine zzN ?_; refine zzi ?_; refine Zr ?_;apply Znu 14 (fun sj1 => [(14, .any), (15, .any), (16, .any), (17, .any), (18, .bool sj1)]) rfl
  · intro hj1 run1
    try replace hj1 := Zh hj1
    refine zzf ?_; refine zzl ?_; refine zzn ?_; refine ZK ?_;exact AOps.ag run1
  · intro hj1 run1
    try replace hj1 := Zj hj1
    refine Zg ?_; refine Zg ?_; refine Zg ?_; refine ZK ?_;exact AOps.ag run1
  refine AOps.nil ?_;refine ARun.cond rfl (fun h0 => ?_) (fun h0 => ?_)
  · skip
    have h1 : c = 0 ∧ more = false := by
      simp only [Bool.and_eq_true, beq_iff_eq, Bool.not_eq_true'] at h0;refine ⟨?_, h0.2⟩
      rcases Nat.eq_zero_or_pos c with h | h
      · exact h
      have := ZB.2 (show c ≠ 0 by omega); omega
    obtain ⟨rfl, rfl⟩ := h1;rw [ZlW];refine go ?_;refine ARun.ret ?_;refine ⟨_, _, _, .tmp rfl (.tmp rfl .nil), .cons (ZfT) (.cons (.same _) .nil), rfl, ?_⟩;rfl
  have hc0 : 0 < c := by
    rcases Nat.eq_zero_or_pos c with h | h
    · subst h
      cases hmo : more with
      | true => exact absurd (hm hmo).2 (by omega)
      | false => rw [hmo, Za9] at h0; exact absurd h0 (by decide)
    exact h
  refine go ?_;refine Znp rfl (fun h1 => ?_) (fun h1 => ?_)
  · skip
    have hmf : more = false := by
      cases hmo : more with
      | true => have := (hm hmo).1; omega
      | false => rfl
    subst hmf;obtain ⟨k, hk⟩ : ∃ k : Nat, e - q = (k : Int) := ⟨(e - q).toNat, by omega⟩
    have hk2 : k ≤ 1000 := by omega
    have hck : c * 10 ^ k < 10 ^ 4000 := @Zak _ _ _ 4000 hc (by omega);have lck := fitW hck (by omega);have hcut := ZhG neg (c * 10 ^ k) 0 1 false dir lck (by rw [Za9]; omega) fit_1;refine ARun.seq ?_;refine zdr 17 mixC ?_;refine zdf ?_;refine zdl ?_;refine zdf ?_;refine zdl ?_;refine zdf ?_;refine zdl ?_;refine zdm ?_;refine .op rfl (Znq (d' := .int .i64 (k : Int)) (Zk rfl rfl (IntWalk.i64_in _ (by omega))) (congrArg (D.int .i64) hk)) ?_;refine .op rfl (Zb rfl rfl (ZbS k (by omega))) ?_;refine .op rfl (Zb rfl rfl (Zcx c (10 ^ k) (by omega) (by have := fitT (n := k) (by omega); omega))) ?_;refine .op rfl (Znq (Zd rfl rfl rfl rfl rfl rfl rfl rfl rfl rfl rfl (by decide) (by decide) rfl) ZO) ?_;refine gd ?_;refine .op rfl (ZgU rfl rfl (.cons (.same _) (.cons (.same _) (.cons ZfT (.cons (.same _) (.cons (.same _) (.cons (.same _) .nil)))))) hcut) ?_;refine .op rfl (ZD rfl rfl) ?_;refine .op rfl (ZD rfl rfl) ?_;refine .nil (fun hG => ?_);refine go ?_;refine ZnA ?_;rw [nm_up (by omega), hk, Int.toNat_natCast]; try rfl
  obtain ⟨k, hk⟩ : ∃ k : Nat, q - e = (k : Int) := ⟨(q - e).toNat, by omega⟩
  have hk0 : 0 < k := by omega
  rw [ZfR (show e < q by omega), hk, Int.toNat_natCast];refine go ?_;refine zdr 9 mixC ?_;refine zdm ?_;refine zdf ?_;refine zdl ?_;refine .op rfl (Znq (d' := .int .i64 (k : Int)) (Zk rfl rfl (IntWalk.i64_in _ (by omega))) (congrArg (D.int .i64) hk)) ?_;refine gd ?_;refine .op rfl (Zb rfl rfl ((ZdM c lc).mono fun o ho => by rw [ho, Zjz hc0])) ?_;refine .op rfl (Zf rfl rfl (Zi (by omega))) ?_;refine .op rfl (Zaa rfl rfl rfl) ?_;refine .nil (fun hG => ?_);refine AOps.nil ?_;refine Znp rfl (fun h2 => ?_) (fun h2 => ?_)
  · skip
    have hfar := pcM_far (C := c) (k := k) (by omega) hc0 more;have hcut := ZhG neg 0 1 100 false dir (by rw [Za9]; omega) fit_1 (by rw [Zfm (by omega) (by omega)]; decide);refine gn ?_;refine Za rfl (Znq (Zd rfl rfl rfl rfl rfl rfl rfl rfl rfl rfl rfl (by decide) (by decide) rfl) ZO) ?_;refine Za rfl (Znq (Zd rfl rfl rfl rfl rfl rfl rfl rfl rfl rfl rfl (by decide) (by decide) rfl) (numD_sm (n := 100) (by omega) (by omega))) ?_;refine Zr ?_;refine Za rfl (ZgU rfl rfl (.cons (.same _) (.cons ZfT (.cons (.same _) (.cons (.same _) (.cons (.same _) (.cons (.same _) .nil)))))) hcut) ?_;refine go ?_;refine ZnA ?_;rw [hfar]; try rfl
  have hk3 : k ≤ 3100 := by omega
  have hT : 0 < 10 ^ k := Nat.pow_pos (Nat.succ_pos 9);have lT := fitT (n := k) (by omega);have lq : (lim (c / 10 ^ k)).length ≤ 1024 := Nat.le_trans (Zn (Nat.div_le_self _ _)) lc;have lr : (lim (c % 10 ^ k)).length ≤ 1024 := Nat.le_trans (Zn (Nat.mod_le _ _)) lc;refine gn ?_;refine Za rfl (Znq (d' := .int .i64 (k : Int)) (Zk rfl rfl (IntWalk.i64_in _ (by omega))) (congrArg (D.int .i64) hk)) ?_;refine Zc rfl rfl (ZbS k (by omega)) ?_;refine go ?_;refine Zc rfl rfl (Zi2 c (10 ^ k) (by omega) (by omega) hT) ?_;refine ZI rfl rfl rfl rfl rfl rfl rfl rfl rfl rfl rfl ?_;refine go ?_;refine Zc rfl rfl (ZhG neg (c / 10 ^ k) (c % 10 ^ k) (10 ^ k) more dir lq lr lT) ?_;refine go ?_;refine ZnA ?_;rfl
theorem at_false {t : Nat × Bool × Int} {dir : Int} {neg : Bool} (h : t.2.1 = false) : rnd dir neg t = t.1 := by unfold rnd; rw [h]; rfl
theorem dl_rnd {P c : Nat} : (((tx c).length : Nat) : Int) > (P : Int) ↔ 10 ^ P ≤ c ∨ (P = 0 ∧ c = 0) := by
  rcases Nat.eq_zero_or_pos c with h | h
  · subst h
    have h1 : (tx 0).length = 1 := rfl;have h2 : 0 < 10 ^ P := Nat.pow_pos (Nat.succ_pos 9);rw [h1]; omega
  rw [Zjz h, ← Zgx]; omega
theorem rnd_le2 (dir : Int) (neg : Bool) (t : Nat × Bool × Int) : rnd dir neg t ≤ t.1 + 1 := by unfold rnd; split <;> omega
theorem Zbr (x : Nu) (f dir prefer : Int) (hd : isDir dir) (hm : x.more = true → 10 ^ fP f ≤ x.c) (hc : x.c < 10 ^ 3000) (he : -100000 ≤ x.e ∧ x.e ≤ 100000) (hpf : -1000000 ≤ prefer ∧ prefer ≤ 1000000) :
    PC C 87 [nuD x, .int .i64 f, .int .i64 dir, .int .i64 prefer] (fun o => o = .ret (rsD (RS f x.neg dir prefer (nmOf x.c x.e x.more)))) := by
  obtain ⟨neg, c, e, more⟩ := x;replace hm : more = true → 10 ^ fP f ≤ c := hm;replace hc : c < 10 ^ 3000 := hc;replace he : -100000 ≤ e ∧ e ≤ 100000 := he;show PC C 87 [.agg [.bool neg, numD c, .int .i64 e, .bool more], .int .i64 f, .int .i64 dir, .int .i64 prefer] (fun o => o = .ret (rsD (RS f neg dir prefer (nmOf c e more))));have lc := fitW hc (by omega);have hdl := dl_fit hc;have hp := ZW f;have hb := f_le f;have hT : 0 < 10 ^ fP f := Nat.pow_pos (Nat.succ_pos 9);refine Znr Tryz.func87 Tryz.ntmps87 Tryz.results87 ?_;refine go ?_;refine zzb ?_;refine go ?_;refine Zc rfl rfl (ZfB f) ?_;refine ZI rfl rfl rfl rfl rfl rfl rfl rfl rfl rfl rfl ?_;refine AOps.nil (ARun.seq (zzs ?_)); refine zzf ?_; refine zzl ?_; refine zzN ?_; refine zzi ?_; refine Zr ?_;apply Znu 26 (fun sj1 => [(26, .any), (27, .any), (28, .any), (29, .any), (30, .bool sj1)]) rfl
  · intro hj1 run1
    try replace hj1 := Zh hj1
    refine zzf ?_; refine zzl ?_; refine zzn ?_; refine ZK ?_;exact AOps.ag run1
  · intro hj1 run1
    try replace hj1 := Zj hj1
    refine Zg ?_; refine Zg ?_; refine Zg ?_; refine ZK ?_;exact AOps.ag run1
  refine AOps.nil ?_;refine ARun.cond rfl (fun h0 => ?_) (fun h0 => ?_)
  · skip
    have h1 : c = 0 ∧ more = false := by
      simp only [Bool.and_eq_true, beq_iff_eq, Bool.not_eq_true'] at h0;refine ⟨?_, h0.2⟩
      rcases Nat.eq_zero_or_pos c with h | h
      · exact h
      have := ZB.2 (show c ≠ 0 by omega); omega
    obtain ⟨rfl, rfl⟩ := h1;rw [ZcF (show (nmOf 0 e false).n = 0 from rfl)];refine ARun.seq ?_;refine zdr 11 mixC ?_;refine gd ?_;refine .op rfl (Zb rfl rfl (Zh8 prefer (fLo f) (fHi f))) ?_;refine .op rfl (Zb rfl rfl (Zes f neg (min (max prefer (fLo f)) (fHi f)))) ?_;refine .op rfl (Zal rfl rfl rfl rfl rfl) ?_;refine .nil (fun hG => ?_);refine go ?_;refine Zns ?_;unfold zro finD; rw [ZA]; try rfl
  have hc0 : 0 < c := by
    rcases Nat.eq_zero_or_pos c with h | h
    · subst h
      cases hmo : more with
      | true => have := hm hmo; omega
      | false => rw [hmo, Za9] at h0; exact absurd h0 (by decide)
    exact h
  have hD : PC C 63 [numD c] (fun o => o = .ret (.int .i64 (dl c : Nat))) := (ZdM c lc).mono fun o ho => by rw [ho, Zjz hc0]
  have hQ : max (fLo f) (e + (dl c : Int) - (fP f : Int)) = rQ f c e := rfl
  have hqb : fLo f ≤ rQ f c e ∧ rQ f c e ≤ 110000 ∧ e - rQ f c e ≤ 1000 := by
    have := dl_pos' hc0;rw [← hQ]; omega
  have hQi := rQ_is (f := f) (e := e) (more := more) hc0 hm;refine go ?_;refine Zc rfl rfl (hD) ?_;refine zza ?_; refine AOps.nil (ARun.seq (zzs ?_)); refine zzf ?_; refine zzl ?_; refine zzn ?_; refine AOps.nil ?_;refine Zny (S := Unit) (fun s : Unit => [(11, .any), (12, .any), (13, .any), (14, .any), (15, .any), (48, .any), (49, .any), (50, .any), (51, .any), (52, .any), (53, .any), (54, .any), (55, .any), (56, .any), (57, .any), (58, .any), (59, .any), (60, .any), (61, .any), (62, .any), (63, .any), (64, .any), (65, .any), (66, .any), (67, .any), (68, .any), (69, .any), (70, .any), (71, .any), (72, .any), (73, .any), (74, .any), (75, .any), (76, .any), (77, .any), (78, .any), (79, .any), (80, .any), (81, .any), (82, .any), (83, .any), (84, .any), (85, .any), (86, .any), (87, .any), (88, .any)]) (fun s : Unit => more = true ∨ ∃ z, IsZ c z ∧ min (fHi f) (e + (z : Int)) < rQ f c e) (fun run => ?_) ?_
  · skip
    refine ARun.cond rfl (fun hmo => ?_) (fun hmo => ?_)
    · skip
      have hmo : more = false := by simpa using hmo
      subst hmo;obtain ⟨z, hz⟩ := IsZ.ex hc0;have hzl := hz.lt hc0;refine gn ?_;refine Za rfl (Zf rfl rfl (IntWalk.i64_in _ (by omega))) ?_;refine gn ?_;refine Za rfl (Zk rfl rfl (IntWalk.i64_in _ (by omega))) ?_;refine Za rfl (Znq (d' := .int .i64 (rQ f c e)) (Zif rfl rfl) rfl) ?_;refine go ?_;refine zdr 10 mixC ?_;refine gd ?_;refine .op rfl (Zb rfl rfl (Zlr c z lc hc0 hz)) ?_;refine .op rfl (Zf rfl rfl (IntWalk.i64_in _ (by omega))) ?_;refine .op rfl (Zgt rfl rfl) ?_;refine .nil (fun hG => ?_);refine go ?_;refine Znp rfl (fun h2 => ?_) (fun h2 => ?_)
      · skip
        have hE : rE f c e prefer z = min (max prefer (rQ f c e)) (min (fHi f) (e + z)) := rfl
        have hEb : rQ f c e ≤ rE f c e prefer z ∧ rE f c e prefer z ≤ fHi f ∧ rE f c e prefer z ≤ e + z := by rw [hE]; omega
        have hat := (Zjo (e := e) (q := rE f c e prefer z) hz).2 hEb.2.2;refine go ?_;refine Zc rfl rfl (Zh8 prefer (rQ f c e) (min (fHi f) (e + z))) ?_;refine go ?_;refine Zc rfl rfl (ZhH ⟨neg, c, e, false⟩ (rE f c e prefer z) dir (fun h => by cases h) hc (by dsimp only; omega) (by omega) (by dsimp only; omega)) ?_;refine go ?_;refine Zc rfl rfl (ZdN f neg (lim (rnd dir neg ((nmOf c e false).at (rE f c e prefer z)))) (rE f c e prefer z)) ?_;refine go ?_;refine Zns ?_;rw [rd_exact hc0 hz h2, at_false hat]; try rfl
      refine ARun.skip ?_;exact ARun.ag (run (()) (.inr ⟨z, hz, by omega⟩))
    refine ARun.skip ?_;exact ARun.ag (run (()) (.inl (by simpa using hmo)))
  rintro s hj
  try dsimp only at hj ⊢
  rw [rd_inx hc0 hm hj];have hund := rQ_under (f := f) (e := e) (more := more) hc0 hm;have hCut := ZhH ⟨neg, c, e, more⟩ (rQ f c e) dir (fun h => ⟨Zhc (hm h), hc0⟩) hc (by dsimp only; omega) (by omega) (by dsimp only; omega);replace hCut : PC C 119 [.agg [.bool neg, numD c, .int .i64 e, .bool more], .int .i64 (rQ f c e), .int .i64 dir] (fun o => o = .ret (.tup [numD (rnd dir neg ((nmOf c e more).at (rQ f c e))), .bool ((nmOf c e more).at (rQ f c e)).2.1])) := hCut;have hlt := hQi.2.1;generalize (nmOf c e more).at (rQ f c e) = A at hund hCut hlt ⊢;obtain ⟨c0, rest, hf⟩ := A;replace hund : e + (dl c : Int) ≤ (fP f : Int) - 1 + fLo f ↔ c0 < 10 ^ (fP f - 1) := hund;replace hlt : c0 < 10 ^ fP f := hlt;replace hCut : PC C 119 [.agg [.bool neg, numD c, .int .i64 e, .bool more], .int .i64 (rQ f c e), .int .i64 dir] (fun o => o = .ret (.tup [numD (rnd dir neg (c0, rest, hf)), .bool rest])) := hCut;have hc1 := rnd_le2 dir neg (c0, rest, hf);replace hc1 : rnd dir neg (c0, rest, hf) ≤ c0 + 1 := hc1;unfold inx;generalize rnd dir neg (c0, rest, hf) = c1 at hc1 hCut ⊢
  have hc1w : c1 < 10 ^ (fP f + 1) := by rw [Nat.pow_succ]; omega
  have lc1 := fitW hc1w (by omega);generalize rQ f c e = q at hqb hCut hQ ⊢;refine gn ?_;refine Za rfl (Zf rfl rfl (IntWalk.i64_in _ (by omega))) ?_;refine gn ?_;refine Za rfl (Zk rfl rfl (IntWalk.i64_in _ (by omega))) ?_;refine Za rfl (Znq (d' := .int .i64 q) (Zif rfl rfl) (congrArg (D.int .i64) hQ)) ?_;refine go ?_;refine Zc rfl rfl (hCut) ?_;refine Zr ?_; refine zze ?_; refine zze ?_; refine zza ?_; refine zza ?_; refine zzt ?_; refine zza ?_; refine AOps.nil (ARun.seq (zzs ?_)); refine Zr ?_; refine AOps.nil ?_;refine Zny (S := Int) (fun fl : Int => [(19, .int .i64 fl)]) (fun fl : Int => fl = if rest then 16 else 0) (fun run => ?_) ?_
  · skip
    refine ARun.cond rfl (fun hr => ?_) (fun hr => ?_)
    · skip
      refine ARun.region ?_; refine zza ?_; refine AOps.nil ?_;exact ARun.ag (run (16) (by rw [if_pos hr]))
    refine ARun.skip ?_;exact ARun.ag (run (0) (by rw [if_neg (by rw [hr]; decide)]))
  rintro fl hj
  try dsimp only at hj ⊢
  refine ARun.seq (zzs ?_); refine Zr ?_; refine Zr ?_;apply Znu 108 (fun sj2 => [(108, .any), (109, .any), (110, .any), (111, .any), (112, .any), (113, .any), (114, .any), (115, .any), (116, .any), (117, .any), (118, .any), (119, .any), (120, .bool sj2)]) rfl
  · intro hj2 run2
    try replace hj2 := Zh hj2
    refine gn ?_;refine Za rfl (Zf rfl rfl (IntWalk.i64_in _ (by omega))) ?_;refine gn ?_;refine Za rfl (Zk rfl rfl (IntWalk.i64_in _ (by omega))) ?_;refine gn ?_;refine Za rfl (Zf rfl rfl (IntWalk.i64_in _ (by omega))) ?_;refine zzi ?_; refine ZK ?_;exact AOps.ag run2
  · intro hj2 run2
    try replace hj2 := Zj hj2
    refine Zg ?_; refine Zg ?_; refine Zg ?_; refine Zg ?_; refine Zg ?_; refine Zg ?_; refine Zg ?_; refine Zg ?_; refine Zg ?_; refine Zg ?_; refine Zg ?_; refine ZK ?_;exact AOps.ag run2
  refine AOps.nil ?_;refine Zny (S := Int) (fun f2 : Int => [(121, .any), (122, .any), (19, .int .i64 f2)]) (fun f2 : Int => f2 = if rest then (if c0 < 10 ^ (fP f - 1) then 24 else 16) else 0) (fun run => ?_) ?_
  · skip
    refine ARun.cond rfl (fun hr => ?_) (fun hr => ?_)
    · skip
      simp only [Bool.and_eq_true, decide_eq_true_eq] at hr;rw [if_pos hr.1] at hj;subst hj;refine gn ?_;refine Za rfl (Zf rfl rfl (IntWalk.i64_in _ (by omega))) ?_;refine zza ?_; refine AOps.nil ?_;exact ARun.ag (run (24) (by rw [if_pos hr.1, if_pos (hund.1 hr.2)]))
    have hfl : fl = if rest then (if c0 < 10 ^ (fP f - 1) then 24 else 16) else 0 := by
      rw [hj]
      by_cases hre : rest = true
      · rw [hre, Bool.true_and] at hr
        rw [if_pos hre, if_pos hre, if_neg (fun h3 => Zj hr (hund.2 h3))]
      rw [if_neg hre, if_neg hre]
    refine ARun.skip ?_;exact ARun.ag (run (fl) (hfl))
  rintro f2 hj
  try dsimp only at hj ⊢
  have hf2 := hj;refine go ?_;refine zdr 5 mixC ?_;refine zdm ?_;refine .op rfl (Zb rfl rfl (ZdM c1 lc1)) ?_;refine zdf ?_;refine zdl ?_;refine .op rfl (Zaa rfl rfl rfl) ?_;refine .nil (fun hG => ?_);refine AOps.nil ?_;refine Zny (S := Nat × Int) (fun σ : Nat × Int => [(128, .any), (129, .any), (130, .any), (131, .any), (132, .any), (133, .any), (16, .int .i64 σ.2), (17, numD σ.1)]) (fun σ : Nat × Int => σ.1 = (if 10 ^ fP f ≤ c1 then 10 ^ (fP f - 1) else c1) ∧ σ.2 = (if 10 ^ fP f ≤ c1 then q + 1 else q)) (fun run => ?_) ?_
  · skip
    refine Znp rfl (fun hg => ?_) (fun hg => ?_)
    · skip
      have hg2 : 10 ^ fP f ≤ c1 := by rcases dl_rnd.1 hg with h | h <;> omega
      refine gn ?_;refine Za rfl (Zk rfl rfl (ZY (by omega) (by omega))) ?_;refine Zc rfl rfl (ZbS (fP f - 1) (by omega)) ?_;refine gn ?_;refine Za rfl (Zf rfl rfl (IntWalk.i64_in _ (by omega))) ?_;refine zza ?_; refine AOps.nil ?_;exact ARun.ag (run ((10 ^ (fP f - 1), q + 1)) (⟨by rw [if_pos hg2], by rw [if_pos hg2]⟩))
    have hg2 : ¬ 10 ^ fP f ≤ c1 := fun h => hg (dl_rnd.2 (.inl h))
    refine ARun.skip ?_;exact ARun.ag (run ((c1, q)) (⟨by rw [if_neg hg2], by rw [if_neg hg2]⟩))
  rintro ⟨c2, q2⟩ hj
  try dsimp only at hj ⊢
  obtain ⟨k1, k2⟩ := hj;rw [← k1, ← k2];refine go ?_;refine Znp rfl (fun ho => ?_) (fun ho => ?_)
  · skip
    refine go ?_;refine Zc rfl rfl (Zi6 f neg dir hd) ?_;refine go ?_;refine Zns ?_;rw [if_pos ho]; try rfl
  refine go ?_;refine Zc rfl rfl (ZdN f neg (lim c2) q2) ?_;refine go ?_;refine Zns ?_;rw [if_neg ho, hf2]; try rfl
def Zef (a b : Nu) : Nu :=
  if a.c = 0 then b else if b.c = 0 then a else if 400 < a.e - b.e then ⟨a.neg, if a.neg ≠ b.neg then a.c * 10 ^ 200 - 1 else a.c * 10 ^ 200, a.e - 200, true⟩
  else if a.neg = b.neg then ⟨a.neg, a.c * 10 ^ (a.e - b.e).toNat + b.c, b.e, false⟩
  else if a.c * 10 ^ (a.e - b.e).toNat < b.c then ⟨b.neg, b.c - a.c * 10 ^ (a.e - b.e).toNat, b.e, false⟩
  else ⟨a.neg, a.c * 10 ^ (a.e - b.e).toNat - b.c, b.e, false⟩
def ZbG (a b : Nu) : Nu := if a.e < b.e then Zef b a else Zef a b
abbrev nuO (neg : Bool) (c : Nat) (e : Int) (more : Bool) : Option AObj := some ⟨[.bool neg, numD c, .int .i64 e, .bool more], Za1, 1, true, none⟩
theorem lenz {n : Nat} : ((((lim n).length : Nat) : Int) == 0) = decide (n = 0) := by
  have := ZB (n := n)
  rcases Nat.eq_zero_or_pos n with h | h
  · subst h; rw [Za9]; rfl
  rw [decide_eq_false (by omega)]; exact beq_eq_false_iff_ne.2 (by omega)
theorem ZlX (x y : Nu) (hx : x.c < 10 ^ 200) (hy : y.c < 10 ^ 200) (hxm : x.more = false) (hym : y.more = false) (hex : -100000 ≤ x.e ∧ x.e ≤ 100000) (hey : -100000 ≤ y.e ∧ y.e ≤ 100000) :
    PC C 159 [nuD x, nuD y] (fun o => o = .ret (nuD (ZbG x y))) := by
  obtain ⟨nx, cx, ex, mx⟩ := x;obtain ⟨ny, cy, ey, my⟩ := y;obtain rfl : mx = false := hxm;obtain rfl : my = false := hym;replace hx : cx < 10 ^ 200 := hx;replace hy : cy < 10 ^ 200 := hy;replace hex : -100000 ≤ ex ∧ ex ≤ 100000 := hex;replace hey : -100000 ≤ ey ∧ ey ≤ 100000 := hey;show PC C 159 [.agg [.bool nx, numD cx, .int .i64 ex, .bool false], .agg [.bool ny, numD cy, .int .i64 ey, .bool false]] (fun o => o = .ret (nuD (ZbG ⟨nx, cx, ex, false⟩ ⟨ny, cy, ey, false⟩)));refine Znr Tryz.func159 Tryz.ntmps159 Tryz.results159 ?_;refine zzs ?_;refine Zq rfl (Zdu rfl rfl rfl) ?_;refine Zq rfl (Zdu rfl rfl rfl) ?_;refine zzA ?_; refine AOps.nil (ARun.seq (zzs ?_)); refine zzF ?_; refine zzG ?_; refine zzF ?_; refine zzG ?_; refine zzi ?_; refine AOps.nil ?_;refine ZnQ (S := Bool × Nat × Int × Bool × Nat × Int) (fun σ : Bool × Nat × Int × Bool × Nat × Int => [(5, .any), (13, .any), (14, .any), (15, .any)]) (fun σ : Bool × Nat × Int × Bool × Nat × Int => [nuO σ.1 σ.2.1 σ.2.2.1 false, nuO σ.2.2.2.1 σ.2.2.2.2.1 σ.2.2.2.2.2 false, some ⟨[.bool false, .nilsl, .int .i64 0, .bool false], Za1, 1, true, none⟩]) (fun σ : Bool × Nat × Int × Bool × Nat × Int => Zef ⟨σ.1, σ.2.1, σ.2.2.1, false⟩ ⟨σ.2.2.2.1, σ.2.2.2.2.1, σ.2.2.2.2.2, false⟩ = ZbG ⟨nx, cx, ex, false⟩ ⟨ny, cy, ey, false⟩ ∧ σ.2.1 < 10 ^ 200 ∧ σ.2.2.2.2.1 < 10 ^ 200 ∧ σ.2.2.2.2.2 ≤ σ.2.2.1 ∧ -100000 ≤ σ.2.2.2.2.2 ∧ σ.2.2.1 ≤ 100000) (fun run => ?_) ?_
  · skip
    refine Znp rfl (fun h => ?_) (fun h => ?_)
    · skip
      refine ga ?_;refine ZI rfl rfl rfl rfl rfl rfl rfl rfl rfl rfl rfl ?_;refine zzt ?_; refine zzH ?_; refine zzS ?_; refine zzu ?_; refine zzL ?_; refine zzS ?_; refine AOps.nil ?_;exact ARun.ag (run ((ny, cy, ey, nx, cx, ex)) (⟨by unfold ZbG; rw [if_pos h], hy, hx, by dsimp only; omega, hex.1, hey.2⟩))
    refine ARun.skip ?_;exact ARun.ag (run ((nx, cx, ex, ny, cy, ey)) (⟨by unfold ZbG; rw [if_neg h], hx, hy, by dsimp only; omega, hey.1, hex.2⟩))
  rintro ⟨na, m, ea, nb, n, eb⟩ hj
  try dsimp only at hj ⊢
  obtain ⟨j1, j2, j3, j6, j7, j8⟩ := hj;rw [← j1];have lm := fitW j2 (by omega);have lN := fitW j3 (by omega);unfold Zef;refine go ?_;refine ARun.cond rfl (fun h1 => ?_) (fun h1 => ?_)
  · skip
    have h1 : m = 0 := Zh (lenz ▸ h1);rw [if_pos h1];refine go ?_;refine Zns ?_;rfl
  have h1 : ¬ m = 0 := Zj (lenz ▸ h1);rw [if_neg h1];refine go ?_;refine ARun.cond rfl (fun h2 => ?_) (fun h2 => ?_)
  · skip
    have h2 : n = 0 := Zh (lenz ▸ h2);rw [if_pos h2];refine go ?_;refine Zns ?_;rfl
  have h2 : ¬ n = 0 := Zj (lenz ▸ h2);rw [if_neg h2];obtain ⟨k, hk⟩ : ∃ k : Nat, ea - eb = (k : Int) := ⟨(ea - eb).toNat, by omega⟩;show ARun _ _ _ _ _ _;simp only [hk, Int.toNat_natCast];refine gn ?_;refine Za rfl (Znq (d' := .int .i64 (k : Int)) (Zk rfl rfl (IntWalk.i64_in _ (by omega))) (congrArg (D.int .i64) hk)) ?_;refine go ?_;refine Znp rfl (fun h3 => ?_) (fun h3 => ?_)
  · skip
    rw [if_pos h3];have lmk : (lim (m * 10 ^ 200)).length ≤ 1024 := fitW (Zak j2 (show 200 + 200 ≤ 400 by omega)) (by omega);have hmk : 1 ≤ m * 10 ^ 200 := Nat.mul_pos (by omega) (Nat.pow_pos (by omega));refine ARun.seq ?_;refine ZnD (n := 11) (fun S : Nat → Bool => [nuO na m ea false, nuO nb n eb false, some ⟨[.bool false, .nilsl, .int .i64 0, .bool false], Za1, 1, true, none⟩]) [(10, 6, 97, [.bool false, .nilsl, .int .i64 0, .bool false], none)] (fun _ => False) (sk := [(10, none)]) mixC rfl rfl (by kernel_rfl) rfl (by kernel_rfl) rfl (fun _ _ _ h => h.elim) ?_;refine DChG.op rfl (fun _ => ZZ rfl rfl rfl (by decide)) (fun _ => rfl) rfl rfl ?_;refine DChG.op rfl (fun _ => ZC rfl rfl rfl rfl rfl) (fun _ => rfl) rfl rfl ?_;refine DChG.op rfl (fun _ => ZZ rfl rfl rfl (by decide)) (fun _ => rfl) rfl rfl ?_;refine DChG.op rfl (fun _ => ZC rfl rfl rfl rfl rfl) (fun _ => rfl) rfl rfl ?_;refine DChG.op rfl (fun _ => Zb rfl rfl (ZbS 200 (by omega))) (fun _ => rfl) rfl rfl ?_;refine DChG.op rfl (fun _ => Zb rfl rfl (Zcx m (10 ^ 200) (by omega) (by have := fitT (n := 200) (by omega); omega))) (fun _ => rfl) rfl rfl ?_;refine DChG.op rfl (fun _ => ZZ rfl rfl rfl (by decide)) (fun _ => rfl) rfl rfl ?_;refine DChG.op rfl (fun _ => ZC rfl rfl rfl rfl rfl) (fun _ => rfl) rfl rfl ?_;refine DChG.op rfl (fun _ => Zk rfl rfl (IntWalk.i64_in _ (by omega))) (fun _ => rfl) rfl rfl ?_;refine DChG.op rfl (fun _ => Zal rfl rfl rfl rfl rfl) (fun _ => rfl) rfl rfl ?_;refine .al rfl rfl rfl rfl (fun _ => rfl) rfl rfl rfl ?_;refine .nil (fun hG => AOps.fin (n := 3) (as' := [(10, 6, 97, [.bool false, .nilsl, .int .i64 0, .bool false])]) (H' := [nuO na m ea false, nuO nb n eb false, some ⟨[.bool false, .nilsl, .int .i64 0, .bool false], Za1, 1, true, none⟩, some ⟨[.bool false, .nilsl, .int .i64 0, .bool false], Za1, 1, true, none⟩]) rfl rfl rfl ?_);refine gn ?_;refine Za rfl (Zbu rfl rfl rfl) ?_;refine AOps.nil ?_;refine ARun.cond rfl (fun h4 => ?_) (fun h4 => ?_)
    · skip
      have h4 : na ≠ nb := by simpa using h4
      rw [if_pos h4];refine gn ?_;refine Za rfl (Znq (Zd rfl rfl rfl rfl rfl rfl rfl rfl rfl rfl rfl (by decide) (by decide) rfl) ZO) ?_;refine Zc rfl rfl (ZeL (m * 10 ^ 200) 1 (by omega) hmk) ?_;refine go ?_;refine Zns ?_;rfl
    have h4 : ¬ na ≠ nb := by simpa using h4
    rw [if_neg h4];refine go ?_;refine Zns ?_;rfl
  rw [if_neg h3]
  have h3 : k ≤ 400 := by
    omega
  have hmk : m * 10 ^ k < 10 ^ 600 := @Zak _ _ _ 600 j2 (by omega);have lmk := fitW hmk (by omega);refine go ?_;refine zdr 9 mixC ?_;refine .op rfl (ZZ rfl rfl rfl (by decide)) ?_;refine .op rfl (ZC rfl rfl rfl rfl rfl) ?_;refine .op rfl (ZZ rfl rfl rfl (by decide)) ?_;refine .op rfl (ZC rfl rfl rfl rfl rfl) ?_;refine .op rfl (ZZ rfl rfl rfl (by decide)) ?_;refine .op rfl (ZC rfl rfl rfl rfl rfl) ?_;refine .op rfl (Znq (d' := .int .i64 (k : Int)) (Zk rfl rfl (IntWalk.i64_in _ (by omega))) (congrArg (D.int .i64) hk)) ?_;refine .op rfl (Zb rfl rfl (ZbS k (by omega))) ?_;refine .op rfl (Zb rfl rfl (Zcx m (10 ^ k) (by omega) (by have := fitT (n := k) (by omega); omega))) ?_;refine .nil (fun hG => ?_);refine gn ?_;refine Za rfl (Zdm rfl rfl rfl) ?_;refine AOps.nil ?_;refine ARun.cond rfl (fun h4 => ?_) (fun h4 => ?_)
  · skip
    have h4 : na = nb := by simpa using h4
    rw [if_pos h4];refine ARun.seq ?_;refine zdr 9 mixC ?_;refine .op rfl (ZZ rfl rfl rfl (by decide)) ?_;refine .op rfl (ZC rfl rfl rfl rfl rfl) ?_;refine zdm ?_;refine .op rfl (ZZ rfl rfl rfl (by decide)) ?_;refine .op rfl (ZC rfl rfl rfl rfl rfl) ?_;refine .op rfl (Zb rfl rfl (Zfz (m * 10 ^ k) n (by omega) (by omega))) ?_;refine .op rfl (ZZ rfl rfl rfl (by decide)) ?_;refine .op rfl (ZC rfl rfl rfl rfl rfl) ?_;refine .op rfl (Zal rfl rfl rfl rfl rfl) ?_;refine .nil (fun hG => ?_);refine go ?_;refine Zns ?_;rfl
  have h4 : ¬ na = nb := by simpa using h4
  rw [if_neg h4];refine go ?_;refine Zc rfl rfl (ZeK (m * 10 ^ k) n (by omega) (by omega)) ?_;refine go ?_;refine Znp rfl (fun h5 => ?_) (fun h5 => ?_)
  · skip
    have h5 : m * 10 ^ k < n := by
      unfold cmpI at h5
      split at h5
      · assumption
      split at h5 <;> omega
    rw [if_pos h5];refine ARun.seq ?_;refine zdr 9 mixC ?_;refine .op rfl (ZZ rfl rfl rfl (by decide)) ?_;refine .op rfl (ZC rfl rfl rfl rfl rfl) ?_;refine .op rfl (ZZ rfl rfl rfl (by decide)) ?_;refine .op rfl (ZC rfl rfl rfl rfl rfl) ?_;refine zdm ?_;refine .op rfl (Zb rfl rfl (ZeL n (m * 10 ^ k) (by omega) (by omega))) ?_;refine .op rfl (ZZ rfl rfl rfl (by decide)) ?_;refine .op rfl (ZC rfl rfl rfl rfl rfl) ?_;refine .op rfl (Zal rfl rfl rfl rfl rfl) ?_;refine .nil (fun hG => ?_);refine go ?_;refine Zns ?_;rfl
  have h5 : ¬ m * 10 ^ k < n := by
    intro h6; apply h5; unfold cmpI; rw [if_pos h6]; decide
  rw [if_neg h5];refine go ?_;refine zdr 9 mixC ?_;refine .op rfl (ZZ rfl rfl rfl (by decide)) ?_;refine .op rfl (ZC rfl rfl rfl rfl rfl) ?_;refine zdm ?_;refine .op rfl (ZZ rfl rfl rfl (by decide)) ?_;refine .op rfl (ZC rfl rfl rfl rfl rfl) ?_;refine .op rfl (Zb rfl rfl (ZeL (m * 10 ^ k) n (by omega) (by omega))) ?_;refine .op rfl (ZZ rfl rfl rfl (by decide)) ?_;refine .op rfl (ZC rfl rfl rfl rfl rfl) ?_;refine .op rfl (Zal rfl rfl rfl rfl rfl) ?_;refine .nil (fun hG => ?_);refine go ?_;refine Zns ?_;rfl
inductive Oc where
  | sp (r : Rs)
  | ex (z : Int) (d : Nat) (e : Int) (neg : Bool) (prefer : Int)
abbrev ocD : Oc → D
  | .sp r => .iface ZdX (rsD r)
  | .ex z d e neg prefer => .iface ZE (exD z d e neg prefer)
def Zim : Option Oc → Out
  | none => .pan invD
  | some x => .ret (ocD x)
noncomputable def ocR (f dir : Int) : Oc → Rs
  | .sp r => r
  | .ex z d e neg prefer => RS f (if z = 0 then neg else decide (z < 0)) dir prefer ⟨z.natAbs, d, e⟩
def ocW (f : Int) : Oc → Prop
  | .sp r => r.dt.coef.length ≤ 1024
  | .ex z d e _ _ => z.natAbs < 10 ^ (8 * fP f) ∧ 0 < d ∧ d < 10 ^ fP f ∧ -1000000 ≤ e ∧ e ≤ 1000000
def addO (f dir : Int) (a b : Dt) : Option Oc :=
  if a.cls = 2 then (if b.cls = 2 ∧ a.neg ≠ b.neg then none else some (.sp ⟨infD f a.neg, 0⟩))
  else if b.cls = 2 then some (.sp ⟨infD f b.neg, 0⟩)
  else some (.ex (sumZ (fP f) (dtZ a) a.exp (dtZ b) b.exp).1 1 (sumZ (fP f) (dtZ a) a.exp (dtZ b) b.exp).2 (if dtZ a = 0 ∧ dtZ b = 0 ∧ a.neg = b.neg then a.neg else decide (dir = 5)) (min a.exp b.exp))
structure dtF (f : Int) (d : Dt) (n : Nat) : Prop where
  co : d.coef = lim n
  lt : n < 10 ^ fP f
  e1 : -100000 ≤ d.exp
  e2 : d.exp ≤ 100000
theorem dtF.z {f : Int} {d : Dt} {n : Nat} (h : dtF f d n) : dtZ d = sgnd d.neg n := by unfold dtZ; rw [h.co, Zl]
theorem dtF.ab {f : Int} {d : Dt} {n : Nat} (h : dtF f d n) : (dtZ d).natAbs = n := by rw [h.z, Zw]
theorem Zh9 (f dir : Int) (a b : Dt) (m n : Nat) (hf : isF f) (ha : dtF f a m) (hb : dtF f b n) : PC C 69 [fmtD f dir, .sl 2 (Z5 [a, b])] (fun o => o = Zim (addO f dir a b)) := by
  have hp := ZW f;have hT := Zc8 a m ha.co;have hT2 := Zc8 b n hb.co;rw [← ha.z] at hT;rw [← hb.z] at hT2;refine Znr Tryz.func69 Tryz.ntmps69 Tryz.results69 ?_;refine go ?_;refine zzb ?_;refine go ?_;refine ZnF (n := 10) (fun S : Nat → Bool => _) [(6, 5, 25, [.int .i64 0, .int .i64 0, .bool false, .nilsl, .int .i64 0], some (8, dtC a)), (7, 6, 25, [.int .i64 0, .int .i64 0, .bool false, .nilsl, .int .i64 0], some (9, dtC b))] (fun _ => False) (sk := [(6, some 8), (7, some 9)]) mixC rfl rfl (by kernel_rfl) rfl (by kernel_rfl) rfl rfl (fun _ _ _ h => h.elim) ?_;refine DChG.op rfl (fun _ => ZaH rfl) (fun _ => rfl) rfl rfl ?_;refine DChG.op rfl (fun _ => Zm rfl rfl rfl rfl (by decide) (by decide) (by simp [Z5]) rfl) (fun _ => rfl) rfl rfl ?_;refine DChG.op rfl (fun _ => Ze rfl rfl rfl rfl rfl) (fun _ => rfl) rfl rfl ?_;refine DChG.op rfl (fun _ => ZaH rfl) (fun _ => rfl) rfl rfl ?_;refine DChG.op rfl (fun _ => Zm rfl rfl rfl rfl (by decide) (by decide) (by simp [Z5]) rfl) (fun _ => rfl) rfl rfl ?_;refine DChG.op rfl (fun _ => Ze rfl rfl rfl rfl rfl) (fun _ => rfl) rfl rfl ?_;refine .al rfl rfl rfl rfl (fun _ => rfl) rfl rfl rfl ?_;refine .al rfl rfl rfl rfl (fun _ => rfl) rfl rfl rfl ?_;refine .sp (j := 6) rfl rfl rfl rfl rfl rfl rfl (fun _ => rfl) rfl rfl rfl (by kernel_rfl) ?_;refine .sp (j := 7) rfl rfl rfl rfl rfl rfl rfl (fun _ => rfl) rfl rfl rfl (by kernel_rfl) ?_;refine .nil (fun hG => ZnH (as' := [(6, 5, 25, dtC a), (7, 6, 25, dtC b)]) rfl ?_);refine go ?_;refine Zc rfl rfl (Z3 a) ?_;refine go ?_;refine ARun.cond rfl (fun h => ?_) (fun h => ?_)
  · skip
    have h : a.cls = 2 := by simpa using h
    refine go ?_;refine Zc rfl rfl (Z3 b) ?_;refine zzn ?_; refine Zr ?_;apply ZnB 19 (fun sj1 => [(19, .any), (20, .any), (21, .any), (22, .any), (23, .any), (24, .any), (25, .bool sj1)]) rfl
    · intro hj1 run1
      try replace hj1 := Zh hj1
      refine Zg ?_; refine Zg ?_; refine Zg ?_; refine Zg ?_; refine Zg ?_; refine ZK ?_;exact AOps.ag run1
    · intro hj1 run1
      try replace hj1 := Zj hj1
      refine gn ?_;refine Za rfl (Zdm rfl rfl rfl) ?_;refine ZK ?_;exact AOps.ag run1
    refine Zan rfl (ZQ rfl rfl (ZnI (ZbE _))) (fun hg => ?_) (fun q hq => by obtain ⟨hq, rfl⟩ := hq; exact ⟨_, _, .same _, rfl, by unfold addO; rw [if_pos h, if_pos (by simpa using hq)]; rfl⟩);refine go ?_;refine Zc rfl rfl (Zbw f dir a.neg 0) ?_;refine Za rfl (ZH rfl rfl rfl) ?_;refine go ?_;refine Zno ?_;unfold addO;rw [if_pos h, if_neg (by intro h2; rw [show (b.cls == 2) = true by simp [h2.1]] at hg; simp [h2.2] at hg)]; try rfl
  have h : ¬ a.cls = 2 := by simpa using h
  refine go ?_;refine Zc rfl rfl (Z3 b) ?_;refine go ?_;refine ARun.cond rfl (fun h2 => ?_) (fun h2 => ?_)
  · skip
    have h2 : b.cls = 2 := by simpa using h2
    refine go ?_;refine Zc rfl rfl (Zbw f dir b.neg 0) ?_;refine Za rfl (ZH rfl rfl rfl) ?_;refine go ?_;refine Zno ?_;unfold addO;rw [if_neg h, if_pos h2]; try rfl
  have h2 : ¬ b.cls = 2 := by simpa using h2
  refine go ?_;refine zdr 7 mixC ?_;refine .op rfl (Ze rfl rfl rfl rfl rfl) ?_;refine .op rfl (Ze rfl rfl rfl rfl rfl) ?_;refine .op rfl (Zb rfl rfl (hT)) ?_;refine .op rfl (Ze rfl rfl rfl rfl rfl) ?_;refine .op rfl (Zb rfl rfl (hT2)) ?_;refine .op rfl (Zb rfl rfl (Zmv f dir (dtZ a) a.exp (dtZ b) b.exp a.neg b.neg a.exp b.exp hf (by rw [ha.ab]; exact ZG ha.lt (by omega)) (by rw [hb.ab]; exact ZG hb.lt (by omega)) ⟨ha.e1, ha.e2⟩ ⟨hb.e1, hb.e2⟩)) ?_;refine .op rfl (ZH rfl rfl rfl) ?_;refine .nil (fun hG => ?_);refine go ?_;refine Zno ?_;unfold addO;rw [if_neg h, if_neg h2]; try rfl
end Go.V
