/- Rules for steps and contracts of functions, each proved; no condition. -/
import Derived.Test.YtaglofmanchabaaGreatDoorA11
import Derived.DeepKeys
import Derived.ProofKit
import Derived.OpenShut
import Derived.LaidMore
set_option linter.unusedVariables false
set_option linter.unusedSimpArgs false
set_option linter.unnecessarySimpa false
set_option maxHeartbeats 4000000
set_option maxRecDepth 100000
set_option synthInstance.maxHeartbeats 2000000
set_option synthInstance.maxSize 100000
namespace Go.V
open Go.RowKit Go.Proofs
section
variable {C : Ctx} {env : List D} {H : Heap} {dst : Option Tmp} {ty : TypeId} {pos : String} {aft : Array Edge} {gd : Option (Nat × Bool)} {x : Operand} {d : D}
end
section
variable {C : Ctx} {Q : Post} {k : List Item} {env env' : List D} {H : Heap} {df : List ADef} {ops : Array Oper} {rest : List Oper} {i : Nat} {is : List Nat} {d dx : D}
variable {dst : Option Tmp} {ty : TypeId} {pos : String} {aft : Array Edge} {gd : Option (Nat × Bool)} {x y : Operand} {T e : TypeId} {te tee : TE} {n b S : Nat} {J : Heap} {cs : List D} {F : Heap → Heap} {zv : Value} {dz : D} {zs : List D}
theorem Znk [g : GrowL H n J e cs F] (ht : C.ty T = some ⟨.slice e, S, b, zv⟩) (hee : C.ty e = some tee) (h1 : tee.size = 1) (hz : Zas tee.zero = some dz) (hzs : Z7 dz = some zs) (hzl : zs.length = 1)
    (hx : evO C env x = some (Zcl (n + J.length) cs)) (hy : evO C env y = some (.sl 1 [dx])) (hb : (cs.length + 1) * tee.bytes ≤ 140737488355328) (hm : cs.length + 1 ≤ 1099511627776) :
    OpH C ⟨dst, .call ⟨.builtin .append, #[x, y], #[T, T]⟩, ty, pos, aft, gd⟩ env H (fun d H' => ∃ J' : Heap, d = Zcl (n + J'.length) (cs ++ [dx]) ∧ H' = F (Za6 J' e (cs ++ [dx]))) (fun _ _ => False) := by
  obtain ⟨B, g1, g2, g3⟩ := g.prf;obtain ⟨sk, sz, sb, sv⟩ := tee;subst h1;subst g3;subst g1;have hsrc : srcD H (.sl 1 [dx]) = some (1, [dx]) := rfl
  replace hm : cs.length + 1 ≤ maxLen := by rw [Zy]; omega
  cases cs with
  | nil =>
    subst g2;have h := Zh2 (C := C) (dst := dst) (ty := ty) (pos := pos) (aft := aft) (gd := gd) (Zax ht) (ZU hee).1 (Nat.one_pos) hz hzs hzl hx hy hsrc rfl (by decide) (by simpa using hb) (by simpa using hm);refine OpH.mono ?_ (fun _ _ h => h) h;rintro d H' ⟨rfl, rfl⟩;refine ⟨J, ?_, ?_⟩
    · simp [Zcl, Za6]
    simp [Za6]
  | cons c cs =>
    subst g2
    have ho : (B ++ Za6 J e (c :: cs))[B.length + J.length]? = some (some ⟨c :: cs, e, 1, true, none⟩) := by
      simp only [Za6];rw [List.getElem?_append_right (by omega), Nat.add_sub_cancel_left, List.getElem?_append_right (by omega)];simp
    have h := ZiQ (C := C) (dst := dst) (ty := ty) (pos := pos) (aft := aft) (gd := gd) (Zax ht) (ZU hee).1 (Nat.one_pos) hz hzs hzl (n := cs.length + 1) (m := 1) hx ho rfl rfl rfl hy hsrc rfl (by simpa using hb) (by simpa using hm);refine OpH.mono ?_ (fun _ _ h => h) h;rintro d H' ⟨rfl, rfl⟩;refine ⟨J ++ [none], ?_, ?_⟩
    · simp [Zcl, Za6, Nat.add_assoc]
    have e1 : ∀ r : Option AObj, B ++ (J ++ [r]) = (B ++ J) ++ [r] := fun r => by simp
    simp only [Za6, List.cons_append];rw [e1, List.set_append_right _ _ (by simp), show B.length + J.length - (B ++ J).length = 0 by simp];simp
theorem Znl [g : GrowL H n J e cs F] {E : Heap → List D} (hg : gOk ops.toList env gd = some true) (ht : C.ty T = some ⟨.slice e, S, b, zv⟩) (hee : C.ty e = some tee) (h1 : tee.size = 1) (hz : Zas tee.zero = some dz) (hzs : Z7 dz = some zs) (hzl : zs.length = 1)
    (hx : evO C env x = some (Zcl (n + J.length) cs)) (hy : evO C env y = some (.sl 1 [dx])) (hb : (cs.length + 1) * tee.bytes ≤ 140737488355328) (hm : cs.length + 1 ≤ 1099511627776)
    [hp : ∀ J' : Heap, Put env dst (Zcl (n + J'.length) (cs ++ [dx])) (E J')] (hk : ∀ J' : Heap, AOps C Q ops rest k (E J') (F (Za6 J' e (cs ++ [dx]))) df) :
    AOps C Q ops (⟨dst, .call ⟨.builtin .append, #[x, y], #[T, T]⟩, ty, pos, aft, gd⟩ :: rest) k env H df :=
  ZnO hg (Znk ht hee h1 hz hzs hzl hx hy hb hm) (fun d H' ⟨J', h1, h2⟩ => by subst h1; subst h2; have := (hp J').eq; simp only at this ⊢; rw [this]; exact hk J') (fun _ _ h => h.elim)
end
section
variable {C : Ctx} {env : List D} {H : Heap} {dst : Option Tmp} {ty : TypeId} {pos : String} {aft : Array Edge} {gd : Option (Nat × Bool)} {x : Operand} {d : D}
structure Meth (C : Ctx) (t : TypeId) (name : String) (f : FuncId) : Prop where
  run : ∀ (v : Value) (w : World), (method (C.P.types.size + Made.depth) t v name).run C.P w = .ok (f, v) w
theorem Znm {f : FuncId} {t : TypeId} {name : String} {d0 : D} {ds ds' : List D} {ids : List Nat} {args : List Operand} {tys : Array TypeId} {R : Out → Heap → Prop} (hx : evO C env x = some (.iface t d0)) (ha : evOs C env args = some ds) (hm : Meth C t name f) (hz : FzL H (d0 :: ds) ds' ids) (hc : HC C f (frz H ids) ds' R) :
    OpH C ⟨dst, .call ⟨.invoke x name, args.toArray, tys⟩, ty, pos, aft, gd⟩ env H (fun d H' => R (.ret d) H') (fun d H' => R (.pan d) H') := by
  refine ⟨fun L0 w μ a hs hv => ?_⟩;have ex := Zap hs hv hx;have ea := Zfc hs hv ha;simp only [VR] at ex;obtain ⟨u, ex, ec⟩ := ex;obtain ⟨hs', he'⟩ := hs.weak (HWeak.frz (ids := ids));have st := he'.step L0
  have h0 : VRs w (forb L0 μ H) μ H (d0 :: ds) (u :: args.map a.eval) := by simp only [VRs]; exact ⟨_, _, rfl, ec, ea⟩
  have hargs := FzL.ok hs' hz (fun i hi o ho => ZfM hi ho) (VRs.step st h0);have hcall := hc.2 L0 w μ _ hs' hargs
  have hrun : (execOp a.eval ⟨dst, .call ⟨.invoke x name, args.toArray, tys⟩, ty, pos, aft, gd⟩).run C.P w = .ok (.enter f (u :: args.map a.eval).toArray) w := by
    have h1 : (args.toArray.map a.eval) = (args.map a.eval).toArray := by simp
    have h3 : (#[Value.iface t u] ++ (args.map a.eval).toArray)[0]? = some (Value.iface t u) := by simp
    have h4 : (#[Value.iface t u] ++ (args.map a.eval).toArray).extract 1 (#[Value.iface t u] ++ (args.map a.eval).toArray).size = (args.map a.eval).toArray := by
      simp;exact List.take_of_length_le (by simp)
    simp only [execOp, resolve, h1, ex, Sem.run_bind, Sem.run_pure, Result.andThen_ok, invoke, h3, callMethod, h4];have h5 : (program).run C.P w = .ok C.P w := rfl;rw [h5];simp only [Result.andThen_ok, hm.run u w, Sem.run_bind]
    have h2 : (#[u] ++ (args.map a.eval).toArray : Array Value) = (u :: args.map a.eval).toArray := by simp
    rw [h2];exact hc.1 _ _
  unfold Oper.wp;rw [hrun]
  refine hcall.mono fun e w' hf => ?_
  obtain ⟨o, H1, μ1, hR, s1, hO, e1⟩ := hf
  cases o with
  | ret d =>
    obtain ⟨v, rfl, hd⟩ := hO;exact ⟨v, d, H1, μ1, hR, rfl, s1, hd, he'.trans e1⟩
  | pan d =>
    obtain ⟨v, rfl, hd⟩ := hO;exact ⟨v, d, H1, μ1, rfl, rfl, hR, s1, hd, he'.trans e1⟩
theorem ZbJ {f : FuncId} {t : TypeId} {name : String} {d0 : D} {ds : List D} {args : List Operand} {tys : Array TypeId} (hx : evO C env x = some (.iface t d0)) (ha : evOs C env args = some ds) (hm : Meth C t name f) (hc : PC C f (d0 :: ds) (fun o => o = .ret d)) : OpQ C ⟨dst, .call ⟨.invoke x name, args.toArray, tys⟩, ty, pos, aft, gd⟩ env H d :=
  OpH.mono (fun d' H' ⟨h1, h2⟩ => by injection h2 with h2; exact ⟨h2, h1⟩) (fun d' H' ⟨_, h2⟩ => by cases h2) (Znm (H := H) (ids := []) hx ha hm (FzL.sames _) (hc H))
theorem q_nilI {t : TypeId} {d0 : D} (hx : evO C env x = some (.iface t d0)) : OpQ C ⟨dst, .nilCheck x, ty, pos, aft, gd⟩ env H (.iface t d0) := by
  refine ⟨fun L0 w μ a hs hv => ?_⟩;have ex := Zap hs hv hx;have ex2 := ex;simp only [VR] at ex;obtain ⟨u, ex, ec⟩ := ex
  have : (execOp a.eval ⟨dst, .nilCheck x, ty, pos, aft, gd⟩).run C.P w = .ok (.value (a.eval x)) w := by
    simp only [execOp, ex]; rfl
  unfold Oper.wp;rw [this];exact ⟨_, .iface t d0, H, μ, ⟨rfl, rfl⟩, rfl, hs, ex2, Evo.refl _ _ _⟩
end
theorem m_special : Meth C ZdX "soroban/deci.finish" 369 := ⟨fun _ _ => by kernel_rfl⟩
theorem m_exact : Meth C ZE "soroban/deci.finish" 370 := ⟨fun _ _ => by kernel_rfl⟩
theorem Zjw : Meth C Zba "soroban/round.size" 386 := ⟨fun _ _ => by kernel_rfl⟩
theorem ZiI : Meth C Zba "soroban/round.power" 385 := ⟨fun _ _ => by kernel_rfl⟩
theorem m_about : Meth C Zba "soroban/round.about" 381 := ⟨fun _ _ => by kernel_rfl⟩
theorem m_long : Meth C Zba "soroban/round.long" 383 := ⟨fun _ _ => by kernel_rfl⟩
theorem m_digit : Meth C Zba "soroban/round.digit" 382 := ⟨fun _ _ => by kernel_rfl⟩
theorem emodPow (a m : Int) : ∀ n : Nat, a ^ n % m = (a % m) ^ n % m
  | 0 => by rw [Int.pow_zero, Int.pow_zero]
  | n + 1 => by rw [Int.pow_succ, Int.pow_succ, Int.mul_emod, emodPow a m n, Int.mul_emod ((a % m) ^ n), Int.emod_emod]
theorem natMul_ok {a b : Nat} (ha : (lim a).length ≤ 1024) (hb : (lim b).length ≤ 1024) (h : (lim (a * b)).length ≤ 1024) : PC C 66 [numD a, numD b] (fun o => o = .ret (.tup [numD (a * b), .int .i64 0])) :=
  (ZgD (lim a) (lim b) (Zz _) (Zz _)).mono fun o ho => by
    rw [ho, Zhh ha hb, Zl, Zl];simp only [if_pos h]
theorem natDiv_ok {a b : Nat} (ha : (lim a).length ≤ 1024) (hb : (lim b).length ≤ 1024) (h0 : 0 < b) : PC C 107 [numD a, numD b] (fun o => o = .ret (.tup [numD (a / b), numD (a % b), .int .i64 0])) :=
  (ZgE (lim a) (lim b) (Zz _) (Zz _)).mono fun o ho => by
    have : (lim b).length ≠ 0 := by have := ZB.2 (show b ≠ 0 by omega); omega
    rw [ho];unfold resD;rw [ZaE ha, ZaE hb, Zl, Zl];simp only [Bool.and_self, cond_true, if_neg this]
theorem ZgT (a b m : Nat) (hm : (lim m).length ≤ 1024) (ha : a < m) (hb : b < m) : PC C 250 [numD a, numD b, numD m] (fun o => o = .ret (numD ((a + b) % m))) := by
  have la : (lim a).length ≤ 1024 := Nat.le_trans (Zn (Nat.le_of_lt ha)) hm;have lb : (lim b).length ≤ 1024 := Nat.le_trans (Zn (Nat.le_of_lt hb)) hm;have lr : (lim (m - a)).length ≤ 1024 := Nat.le_trans (Zn (Nat.sub_le _ _)) hm;refine Znr Tryz.func250 Tryz.ntmps250 Tryz.results250 ?_;refine go ?_;refine Zc rfl rfl (Zkr hm la (Nat.le_of_lt ha)) ?_;refine go ?_;refine Zc rfl rfl (Zc7 (m - a)) ?_;refine go ?_;refine Zc rfl rfl (ZiX b (m - a) lb lr) ?_;refine go ?_;refine Znp rfl (fun h => ?_) (fun h => ?_)
  · skip
    have h : m - a ≤ b := by unfold cmpI at h; split at h <;> omega
    have e : (a + b) % m = b - (m - a) := by
      rw [Nat.mod_eq_sub_mod (by omega), Nat.mod_eq_of_lt (by omega)]; omega
    refine go ?_;refine Zc rfl rfl (Zkr lb lr h) ?_;refine go ?_;refine Zc rfl rfl (Zc7 (b - (m - a))) ?_;refine go ?_;refine Zno ?_;rw [e]; try rfl
  have h : b < m - a := by
    unfold cmpI at h
    split at h
    · assumption
    split at h <;> omega
  have e : (a + b) % m = a + b := Nat.mod_eq_of_lt (by omega);refine go ?_;refine Zc rfl rfl (natAdd_ok la lb (Nat.le_trans (Zn (show a + b ≤ m by omega)) hm)) ?_;refine go ?_;refine Zc rfl rfl (Zc7 (a + b)) ?_;refine go ?_;refine Zno ?_;rw [e]; try rfl
theorem bit_dig (b i : Nat) : dig b (i / 32) / 2 ^ (i % 32) % 2 = b / 2 ^ i % 2 := by
  have h1 : b / 2 ^ i = b / B ^ (i / 32) / 2 ^ (i % 32) := ZeQ b i;rw [h1, dig];have hr : i % 32 < 32 := Nat.mod_lt _ (by decide);generalize b / B ^ (i / 32) = x;generalize i % 32 = r at hr
  have hB : B = 2 ^ r * 2 ^ (32 - r) := by rw [← Nat.pow_add, show r + (32 - r) = 32 by omega]; rfl
  rw [hB, Nat.mod_mul_right_div_self]
  exact Nat.mod_mod_of_dvd _ (by
    obtain ⟨k, hk⟩ : ∃ k, 32 - r = k + 1 := ⟨31 - r, by omega⟩
    rw [hk, Nat.pow_succ]; exact Nat.dvd_mul_left 2 _)
theorem Zku (b j : Nat) : b / 2 ^ j = 2 * (b / 2 ^ (j + 1)) + b / 2 ^ j % 2 := by
  rw [Nat.pow_succ, ← Nat.div_div_eq_div_mul]; omega
theorem Zi3 (a b m : Nat) (hm : (lim m).length ≤ 1024) (ha : a < m) (hb : b < m) : PC C 186 [numD a, numD b, numD m] (fun o => o = .ret (numD (a * b % m))) := by
  have la : (lim a).length ≤ 1024 := Nat.le_trans (Zn (Nat.le_of_lt ha)) hm;have lb : (lim b).length ≤ 1024 := Nat.le_trans (Zn (Nat.le_of_lt hb)) hm
  have hm0 : 0 < m := by omega
  refine Znr Tryz.func186 Tryz.ntmps186 Tryz.results186 ?_;refine gn ?_;refine Za rfl (Zf rfl rfl (Z1 (by omega))) ?_;refine go ?_;refine Znp rfl (fun h => ?_) (fun h => ?_)
  · skip
    have lab : (lim (a * b)).length ≤ 1024 := by have := Zco a b; omega
    refine go ?_;refine Zc rfl rfl (natMul_ok la lb lab) ?_;refine go ?_;refine Zc rfl rfl (Zc7 (a * b)) ?_;refine Zr ?_;refine Zc rfl rfl (natDiv_ok lab hm hm0) ?_;refine go ?_;refine Zan rfl (ZQ rfl rfl (ZnI (Zc6 _ 0))) (fun hg => ?_) (fun q hq => by obtain ⟨hq, rfl⟩ := hq; cases hq);refine go ?_;refine Zno ?_;rfl
  refine gn ?_;refine Za rfl (ZaC rfl rfl (ZaD (m := 32) (by omega))) ?_;refine Za rfl (Zk rfl rfl (IntWalk.i64_in _ (by omega))) ?_;refine zza ?_; refine AOps.nil (ARun.block ?_);refine ZnX 10 rfl ?_;rw [← ZhY];refine Znw (S := Nat × Nat) (fun σ : Nat × Nat => [(39, .any), (40, .any), (41, .any), (42, .any), (43, .any), (44, .any), (45, .any), (46, .any), (47, .any), (48, .any), (49, .any), (50, .any), (51, .any), (52, .any), (53, .any), (54, .any), (55, .any), (56, .any), (57, .any), (58, .any), (59, .any), (60, .any), (10, numD σ.2), (11, .int .i64 ((σ.1 : Int) - 1))]) (fun σ : Nat × Nat => []) (fun σ : Nat × Nat => σ.1 ≤ 32 * (lim b).length ∧ σ.2 = b / 2 ^ σ.1 * a % m) (fun σ : Nat × Nat => σ.1) ((32 * (lim b).length, 0)) ?_ ?_
  · exact ⟨Nat.le_refl _, by dsimp only; rw [Nat.div_eq_of_lt (by rw [← ZdH]; exact ZcV b), Nat.zero_mul, Nat.zero_mod]⟩
  rintro ⟨k, out⟩ hinv ih;dsimp only at hinv ih ⊢;obtain ⟨hk, rfl⟩ := hinv;refine go ?_;refine Znp rfl (fun h1 => ?_) (fun h1 => ?_)
  · skip
    obtain ⟨j, rfl⟩ : ∃ j, k = j + 1 := ⟨k - 1, by omega⟩;rw [show (((j + 1 : Nat) : Int) - 1) = (j : Int) by omega];have hr := Nat.mod_lt (b / 2 ^ (j + 1) * a) hm0;have hd := ZF b (j / 32);have hs := Zku b j
    have e1 : (b / 2 ^ (j + 1) * a % m + b / 2 ^ (j + 1) * a % m) % m = 2 * (b / 2 ^ (j + 1)) * a % m := by
      rw [← Nat.add_mod, ← Nat.two_mul, Nat.mul_assoc]
    have hdl : dig b (j / 32) / 2 ^ (j % 32) < 4294967296 := Nat.lt_of_le_of_lt (Nat.div_le_self _ _) hd;refine go ?_;refine Zc rfl rfl ((ZgT _ _ m hm hr hr).mono fun o ho => by rw [ho, e1]) ?_;refine gn ?_;refine Za rfl (ZaQ rfl rfl (by omega) (Zay (n := 32) rfl (by omega))) ?_;refine Za rfl (Zm rfl rfl rfl rfl (by omega) (by omega) (Zam (by omega)) (ZM (i := j / 32) rfl)) ?_;refine Za rfl (ZP rfl rfl rfl (Zaj (by omega))) ?_;refine Zr ?_;refine Za rfl (Zdt rfl rfl (by omega) (nrem (n := 32) rfl)) ?_;refine Za rfl (Za5 rfl rfl (by omega) (nshr rfl (by show j % 32 ≤ 32; omega))) ?_;refine Za rfl (q_andR rfl rfl (Zks hdl)) ?_;refine go ?_;refine ARun.cond rfl (fun h2 => ?_) (fun h2 => ?_)
    · skip
      have h2 : b / 2 ^ j % 2 = 1 := by
        have : ((dig b (j / 32) / 2 ^ (j % 32) % 2 : Nat) : Int) = 1 := by simpa using h2
        rw [bit_dig] at this;omega
      have e2 : (2 * (b / 2 ^ (j + 1)) * a % m + a) % m = b / 2 ^ j * a % m := by
        rw [hs, h2, Nat.add_mul, Nat.one_mul, Nat.mod_add_mod]
      refine go ?_;refine Zc rfl rfl ((ZgT (2 * (b / 2 ^ (j + 1)) * a % m) a m hm (Nat.mod_lt _ hm0) ha).mono fun o ho => by rw [ho, e2]) ?_;refine gn ?_;refine Za rfl (Zk rfl rfl (IntWalk.i64_in _ (by omega))) ?_;refine go ?_;refine ARun.ag (ih ((j, b / 2 ^ j * a % m)) ?_ ?_)
      · exact ⟨by dsimp only; omega, rfl⟩
      exact Nat.lt_succ_self _
    have h2 : b / 2 ^ j % 2 = 0 := by
      have : ¬ ((dig b (j / 32) / 2 ^ (j % 32) % 2 : Nat) : Int) = 1 := by simpa using h2
      rw [bit_dig] at this;omega
    have e2 : 2 * (b / 2 ^ (j + 1)) * a % m = b / 2 ^ j * a % m := by
      have hs' : b / 2 ^ j = 2 * (b / 2 ^ (j + 1)) := by rw [h2] at hs; exact hs
      rw [hs']
    rw [e2];refine gn ?_;refine Za rfl (Zk rfl rfl (IntWalk.i64_in _ (by omega))) ?_;refine go ?_;refine ARun.ag (ih ((j, b / 2 ^ j * a % m)) ?_ ?_)
    · exact ⟨by dsimp only; omega, rfl⟩
    exact Nat.lt_succ_self _
  have hk0 : k = 0 := by omega
  subst hk0;refine ARun.exit rfl ?_;refine go ?_;refine Zno ?_;rw [Nat.pow_zero, Nat.div_one, Nat.mul_comm]; try rfl
theorem Znn (bit : Bool) (x m y : Nat) (o0 : Option AObj) (hm : (lim m).length ≤ 1024) (hx : x < m) (hy : y < m) : HC C 185 [o0, some ⟨[numD x], Zhx, 1, true, none⟩] [.bool bit, .ptr 1 0, capZ (m : Int), capZ (y : Int)] (fun o H' => o = .ret (.tup []) ∧ H' = [o0, some ⟨[numD (bif bit then x * x * y % m else x * x % m)], Zhx, 1, true, none⟩]) := by
  have hm0 : 0 < m := by omega
  have hx2 := Nat.mod_lt (x * x) hm0
  have e1 : x * x % m * y % m = x * x * y % m := by rw [Nat.mul_mod, Nat.mod_mod, ← Nat.mul_mod]
  refine HC.run ZdG Zgl rfl Zgm (rs := []) (by rw [Zgn]) (by simp only [List.length_cons, List.length_nil, Nat.reduceAdd, Nat.reduceSub, List.replicate_succ, List.replicate_zero, List.cons_append, List.nil_append]; exact rfl) ?_;refine go ?_;refine Zc rfl rfl (Zi3 x x m hm hx hx) ?_;refine go ?_;refine ARun.cond rfl (fun h => ?_) (fun h => ?_)
  · skip
    subst h;refine go ?_;refine Zc rfl rfl ((Zi3 (x * x % m) y m hm hx2 hy).mono fun o ho => by rw [ho, e1]) ?_;refine zzT ?_; refine AOps.nil ?_;refine ARun.nil ?_;refine ⟨_, _, _, .nil, .nil, ?_⟩;exact ⟨rfl, rfl⟩
  subst h;refine ARun.skip ?_;refine ARun.nil ?_;refine ⟨_, _, _, .nil, .nil, ?_⟩;exact ⟨rfl, rfl⟩
def mpO (a n m : Int) : Int ⊕ Int := if m = 0 then .inr 8 else if m < 0 ∨ n < 0 then .inr 1 else .inl (a ^ n.toNat % m)
theorem Zj0 {y m x e1 e2 : Nat} {bit : Bool} (hx : x = y ^ e1 % m) (he : e2 = 2 * e1 + bit.toNat) : (bif bit then x * x * y % m else x * x % m) = y ^ e2 % m := by
  subst hx; subst he
  have h : y ^ e1 % m * (y ^ e1 % m) % m = y ^ (2 * e1) % m := by
    rw [← Nat.mul_mod, ← Nat.pow_add]; congr 2; omega
  cases bit with
  | false => exact h
  | true =>
    simp only [cond_true, Bool.toNat_true];rw [Nat.mul_mod, h, ← Nat.mul_mod, Nat.pow_succ]
theorem ZjO (a n m : Int) (ha : fitZ a) (hn : fitZ n) (hm : fitZ m) : PC C 181 [capZ m, capZ n, capZ a] (fun o => o = outZ (mpO a n m)) := by
  refine Znr Tryz.func181 Tryz.ntmps181 Tryz.results181 ?_;refine gn ?_;refine Za rfl (Zb9 (b := decide (m ≠ 0)) rfl rfl rfl len_pos_iff) ?_;refine Zan rfl (ZQ rfl rfl (ZnI (Zc6 _ 8))) (fun hg => ?_) (fun q hq => by obtain ⟨hq, rfl⟩ := hq; exact ⟨_, _, .same _, rfl, by have hq : m = 0 := (by simpa using hq); unfold mpO; rw [if_pos hq]; rfl⟩);have hm0 : m ≠ 0 := Zh hg;refine zzt ?_; refine zzf ?_; refine zzl ?_; refine zzn ?_; refine Zr ?_;refine AOps.bool 19 rfl (fun c1 => ?_) (fun c1 => ?_)
  · skip
    have c1 : ¬ m < 0 := by simpa using c1
    refine go ?_;refine Zan rfl (ZQ rfl rfl (ZnI (Zc6 _ 1))) (fun hg2 => ?_) (fun q hq => by obtain ⟨hq, rfl⟩ := hq; exact ⟨_, _, .same _, rfl, by have hq : n < 0 := (by simpa using hq); unfold mpO; rw [if_neg hm0, if_pos (.inr hq)]; rfl⟩)
    have hn0 : ¬ n < 0 := by simpa using hg2
    have hmp : 0 < m := by omega
    have hO : mpO a n m = .inl (a ^ n.toNat % m) := by unfold mpO; rw [if_neg hm0, if_neg (by rintro (h | h) <;> omega)]
    rw [hO];obtain ⟨M, rfl⟩ : ∃ M : Nat, m = (M : Int) := ⟨m.toNat, by omega⟩
    have hM : (lim M).length ≤ 1024 := by have h := hm; unfold fitZ at h; rw [Int.natAbs_natCast] at h; exact h
    obtain ⟨y, hy⟩ : ∃ y : Nat, a % (M : Int) = (y : Int) := ⟨(a % (M : Int)).toNat, by have := Int.emod_nonneg a hm0; omega⟩
    have hyM : y < M := by have := Int.emod_lt_of_pos a hmp; omega
    have hM0 : 0 < M := by omega
    obtain ⟨q1, hd1⟩ := w_div3 (a := a) ha hm hmp;rw [hy] at hd1;obtain ⟨q2, hd2⟩ := w_div3 (a := 1) (lnZ_fit lnZ_1) hm hmp;rw [show (1 : Int) % (M : Int) = ((1 % M : Nat) : Int) from rfl] at hd2;have hx1 := Nat.mod_lt 1 hM0;have hn' : (lim n.natAbs).length ≤ 1024 := hn;refine go ?_;refine ZnF (n := 12) (fun S : Nat → Bool => _) [(8, 4, 60, [.bool false, .nilsl], some (10, [.bool (decide (q1 < 0)), numD q1.natAbs])), (9, 5, 60, [.bool false, .nilsl], some (11, [.bool (decide ((y : Int) < 0)), numD (y : Int).natAbs]))] (fun _ => False) (sk := [(8, some 10), (9, some 11)]) mixC rfl rfl (by kernel_rfl) rfl (by kernel_rfl) rfl rfl (fun _ _ _ h => h.elim) ?_;refine DChG.op rfl (fun _ => Ze rfl rfl rfl rfl rfl) (fun _ => rfl) rfl rfl ?_;refine DChG.op rfl (fun _ => Ze rfl rfl rfl rfl rfl) (fun _ => rfl) rfl rfl ?_;refine DChG.op rfl (fun _ => Zb rfl rfl (Zi0)) (fun _ => rfl) rfl rfl ?_;refine DChG.op rfl (fun _ => Zj6 (kt := Zg3) (et := ZbH) (by kernel_rfl) (by kernel_rfl) rfl rfl rfl rfl rfl (Zkp 3)) (fun _ => rfl) rfl rfl ?_;refine DChG.op rfl (fun _ => Zb rfl rfl (hd1)) (fun _ => rfl) rfl rfl ?_;refine DChG.op rfl (fun _ => ZaH rfl) (fun _ => rfl) rfl rfl ?_;refine DChG.op rfl (fun _ => ZD rfl rfl) (fun _ => rfl) rfl rfl ?_;refine DChG.op rfl (fun _ => ZD rfl rfl) (fun _ => rfl) rfl rfl ?_;refine .al rfl rfl rfl rfl (fun _ => rfl) rfl rfl rfl ?_;refine .al rfl rfl rfl rfl (fun _ => rfl) rfl rfl rfl ?_;refine .sp (j := 8) rfl rfl rfl rfl rfl rfl rfl (fun _ => rfl) rfl rfl rfl (by kernel_rfl) ?_;refine .sp (j := 9) rfl rfl rfl rfl rfl rfl rfl (fun _ => rfl) rfl rfl rfl (by kernel_rfl) ?_;refine .nil (fun hG => ZnH (as' := [(8, 4, 60, [.bool (decide (q1 < 0)), numD q1.natAbs]), (9, 5, 60, [.bool (decide ((y : Int) < 0)), numD (y : Int).natAbs])]) rfl ?_);refine go ?_;refine ZnF (n := 12) (fun S : Nat → Bool => _) [(8, 6, 60, [.bool false, .nilsl], some (10, [.bool (decide (q2 < 0)), numD q2.natAbs])), (9, 7, 60, [.bool false, .nilsl], some (11, [.bool (decide (((1 % M : Nat) : Int) < 0)), numD ((1 % M : Nat) : Int).natAbs]))] (fun _ => False) (sk := [(8, some 10), (9, some 11)]) mixC rfl rfl (by kernel_rfl) rfl (by kernel_rfl) rfl rfl (fun _ _ _ h => h.elim) ?_;refine DChG.op rfl (fun _ => Zb rfl rfl (ZgS 1 (by decide) (by decide))) (fun _ => rfl) rfl rfl ?_;refine DChG.op rfl (fun _ => Ze rfl rfl rfl rfl rfl) (fun _ => rfl) rfl rfl ?_;refine DChG.op rfl (fun _ => Zb rfl rfl (Zi0)) (fun _ => rfl) rfl rfl ?_;refine DChG.op rfl (fun _ => Zj6 (kt := Zg3) (et := ZbH) (by kernel_rfl) (by kernel_rfl) rfl rfl rfl rfl rfl (Zkp 3)) (fun _ => rfl) rfl rfl ?_;refine DChG.op rfl (fun _ => Zb rfl rfl (hd2)) (fun _ => rfl) rfl rfl ?_;refine DChG.op rfl (fun _ => ZaH rfl) (fun _ => rfl) rfl rfl ?_;refine DChG.op rfl (fun _ => ZD rfl rfl) (fun _ => rfl) rfl rfl ?_;refine DChG.op rfl (fun _ => ZD rfl rfl) (fun _ => rfl) rfl rfl ?_;refine .al rfl rfl rfl rfl (fun _ => rfl) rfl rfl rfl ?_;refine .al rfl rfl rfl rfl (fun _ => rfl) rfl rfl rfl ?_;refine .sp (j := 8) rfl rfl rfl rfl rfl rfl rfl (fun _ => rfl) rfl rfl rfl (by kernel_rfl) ?_;refine .sp (j := 9) rfl rfl rfl rfl rfl rfl rfl (fun _ => rfl) rfl rfl rfl (by kernel_rfl) ?_;refine .nil (fun hG => ZnH (as' := [(8, 6, 60, [.bool (decide (q2 < 0)), numD q2.natAbs]), (9, 7, 60, [.bool (decide (((1 % M : Nat) : Int) < 0)), numD ((1 % M : Nat) : Int).natAbs])]) rfl ?_);refine gn ?_;refine Za rfl (ZeG rfl) ?_;refine gn ?_;refine Za rfl (ZaC rfl rfl (ZaD (m := 32) (by omega))) ?_;refine Za rfl (Zk rfl rfl (IntWalk.i64_in _ (by omega))) ?_;refine go ?_;refine ZnR (S := Nat × Nat) (fun σ : Nat × Nat => [(49, .any), (50, .any), (51, .any), (52, .any), (53, .any), (54, .any), (55, .any), (56, .any), (57, .any), (58, .any), (59, .any), (60, .any), (61, .any), (62, .any), (63, .any), (64, .any), (65, .any), (10, .int .i64 ((σ.1 : Int) - 1))]) (fun σ : Nat × Nat => [Zfw, some ⟨[numD σ.2], Zhx, 1, true, none⟩]) (fun σ : Nat × Nat => σ.1 ≤ 32 * (lim n.natAbs).length ∧ σ.2 = y ^ (n.natAbs / 2 ^ σ.1) % M) (fun σ : Nat × Nat => σ.1) ((32 * (lim n.natAbs).length, 1 % M)) ?_ ?_ ?_ ?_
    · exact ⟨Nat.le_refl _, by dsimp only; rw [Nat.div_eq_of_lt (by rw [← ZdH]; exact ZcV n.natAbs), Nat.pow_zero]⟩
    · (repeat' first | exact Zag | apply Zah | apply Z4)
    · (rw [Int.natAbs_natCast]; rfl)
    rintro ⟨k, x⟩ hinv ih;dsimp only at hinv ih ⊢;obtain ⟨hk, hx⟩ := hinv
    have hxM : x < M := by rw [hx]; exact Nat.mod_lt _ hM0
    refine go ?_;refine Znp rfl (fun h1 => ?_) (fun h1 => ?_)
    · skip
      obtain ⟨j, rfl⟩ : ∃ j, k = j + 1 := ⟨k - 1, by omega⟩;rw [show (((j + 1 : Nat) : Int) - 1) = (j : Int) by omega];have hd := ZF n.natAbs (j / 32);have hdl : dig n.natAbs (j / 32) / 2 ^ (j % 32) < 4294967296 := Nat.lt_of_le_of_lt (Nat.div_le_self _ _) hd;have hs := Zku n.natAbs j;have hbit := bit_dig n.natAbs j
      have hbt : n.natAbs / 2 ^ j % 2 = (decide (n.natAbs / 2 ^ j % 2 = 1)).toNat := by rcases Nat.mod_two_eq_zero_or_one (n.natAbs / 2 ^ j) with h | h <;> rw [h] <;> rfl
      refine gn ?_;refine Za rfl (ZaQ rfl rfl (by omega) (Zay (n := 32) rfl (by omega))) ?_;refine Za rfl (Zm rfl rfl rfl rfl (by omega) (by omega) (Zam (by omega)) (ZM (i := j / 32) rfl)) ?_;refine Za rfl (ZP rfl rfl rfl (Zaj (by omega))) ?_;refine Zr ?_;refine Za rfl (Zdt rfl rfl (by omega) (nrem (n := 32) rfl)) ?_;refine Za rfl (Za5 rfl rfl (by omega) (nshr rfl (by show j % 32 ≤ 32; omega))) ?_;refine Za rfl (q_andR rfl rfl (Zks hdl)) ?_;refine Za rfl (Zb9 (b := decide (n.natAbs / 2 ^ j % 2 = 1)) rfl rfl rfl (by rw [hbit, Bool.eq_iff_iff, beq_iff_eq, decide_eq_true_iff]; omega)) ?_;refine Ziy rfl rfl rfl rfl (Znn (decide (n.natAbs / 2 ^ j % 2 = 1)) x M y _ hM hxM hyM) (fun d1 H1 hR => ?_) (fun d1 H1 hR => by cases hR.1);obtain ⟨hR1, rfl⟩ := hR
      injection hR1 with hR1
      subst hR1;refine gn ?_;refine Za rfl (Zk rfl rfl (IntWalk.i64_in _ (by omega))) ?_;refine go ?_;refine ARun.ag (ih ((j, bif decide (n.natAbs / 2 ^ j % 2 = 1) then x * x * y % M else x * x % M)) ?_ ?_)
      · exact ⟨by dsimp only; omega, Zj0 hx (by rw [← hbt]; exact hs)⟩
      exact Nat.lt_succ_self _
    have hk0 : k = 0 := by omega
    subst hk0;rw [Nat.pow_zero, Nat.div_one] at hx
    have he : a ^ n.toNat % (M : Int) = ((x : Nat) : Int) := by
      rw [emodPow, hy, ← Int.natCast_pow, ← Int.natCast_emod, hx, show n.toNat = n.natAbs by omega]
    refine ARun.exit rfl ?_;refine go ?_;refine Zc rfl rfl (ZaM false x) ?_;refine Zc rfl rfl (Zj4 _ (by rw [Zw]; have := Nat.le_trans (Zn (Nat.le_of_lt hxM)) hM; omega)) ?_;refine go ?_;refine Zns ?_;rw [he]; try rfl
  have c1 : m < 0 := by simpa using c1
  refine go ?_;refine Zan rfl (ZQ rfl rfl (ZnI (Zc6 _ 1))) (fun hg => by cases hg) (fun q hq => by obtain ⟨hq, rfl⟩ := hq; exact ⟨_, _, .same _, rfl, by unfold mpO; rw [if_neg hm0, if_pos (.inl c1)]; rfl⟩)
theorem okI3 {d1 d2 d3 : Bool × List Nat} (h1 : U32 d1.2) (h2 : U32 d2.2) (h3 : U32 d3.2) (h : [d1, d2, d3].all okI = true) : ∃ x y z, d1 = (decide (x < 0), lim x.natAbs) ∧ fitZ x ∧ d2 = (decide (y < 0), lim y.natAbs) ∧ fitZ y ∧ d3 = (decide (z < 0), lim z.natAbs) ∧ fitZ z := by
  simp only [List.all_cons, List.all_nil, Bool.and_true, Bool.and_eq_true] at h;obtain ⟨x, e1, f1⟩ := Zhi h1 h.1;obtain ⟨y, e2, f2⟩ := Zhi h2 h.2.1;obtain ⟨z, e3, f3⟩ := Zhi h3 h.2.2;exact ⟨x, y, z, e1, f1, e2, f2, e3, f3⟩
theorem Zll (d1 d2 d3 : Bool × List Nat) (h1 : U32 d1.2) (h2 : U32 d2.2) (h3 : U32 d3.2) : PC C 105 [intA d1.1 d1.2, intA d2.1 d2.2, intA d3.1 d3.2] (fun o => o = .ret (.tup [intD (resZ ([d1, d2, d3].all okI) (mpO (valI d1) (valI d2) (valI d3))).1, .int .i64 (resZ ([d1, d2, d3].all okI) (mpO (valI d1) (valI d2) (valI d3))).2])) := by
  refine Znr Tryz.func105 Tryz.ntmps105 Tryz.results105 ?_;refine go ?_;refine zzb ?_; refine zzb ?_; refine zzb ?_;refine gn ?_;refine Za rfl (ZeG rfl) ?_;refine go ?_;refine Za rfl (Zd rfl rfl rfl rfl rfl rfl rfl rfl rfl rfl rfl (by decide) (by decide) rfl) ?_;refine Zc rfl rfl (Ze3 [d1, d2, d3] 3 rfl 181 [.sptr [.bool d3.1, sln .u32 d3.2], .sptr [.bool d2.1, sln .u32 d2.2], .sptr [.bool d1.1, sln .u32 d1.2]] rfl (mpO (valI d1) (valI d2) (valI d3)) (fun h => by obtain ⟨x, y, z, rfl, f1, rfl, f2, rfl, f3⟩ := okI3 h1 h2 h3 h; rw [Zbm, Zbm, Zbm]; exact ZjO x y z f1 f2 f3)) ?_;refine go ?_;refine ARun.ret ?_;refine ⟨_, _, _, Znt rfl rfl rfl rfl rfl rfl (.tmp rfl .nil), .cons (.same _) (.cons (.same _) .nil), rfl, ?_⟩;rfl
theorem ten_two {a k b : Nat} (h1 : a ≤ 3 * k) (h2 : 10 * k ≤ b) : 10 ^ a ≤ 2 ^ b := by
  refine Nat.le_trans (Nat.pow_le_pow_right (by omega) h1) (Nat.le_trans ?_ (Nat.pow_le_pow_right (by omega) h2));rw [Nat.pow_mul, Nat.pow_mul]; exact Nat.pow_le_pow_left (by omega) k
theorem ten_B {a k b : Nat} (h1 : a ≤ 3 * k) (h2 : 10 * k ≤ 32 * b) : 10 ^ a ≤ B ^ b := by
  have e : B = 2 ^ 32 := rfl;rw [e, ← Nat.pow_mul]; exact ten_two h1 h2
theorem fit10 {n : Nat} (h : n < 10 ^ 9800) : (lim n).length ≤ 1024 := by
  exact Zgu (Nat.lt_of_lt_of_le h (@ten_B 9800 3267 1024 (by omega) (by omega)))
theorem Zhl {xs ys : List Nat} {n : Nat} (h1 : okB xs = true) (h2 : okB ys = true) (h : (lim n).length ≤ 1024) : resN xs ys (.inl n) = (n, 0) := by
  unfold resN; rw [h1, h2]; simp only [Bool.and_self, cond_true, if_pos h]
theorem nAdd (a b : Nat) (ha : (lim a).length ≤ 1024) (hb : (lim b).length ≤ 1024) (h : (lim (a + b)).length ≤ 1024) : PC C 104 [numD a, numD b] (fun o => o = .ret (.tup [numD (a + b), .int .i64 0])) := by
  have := ZgC (lim a) (lim b) (Zz a) (Zz b);rw [Zl, Zl, Zhl (ZaE ha) (ZaE hb) h] at this;exact this
theorem nSub (a b : Nat) (ha : (lim a).length ≤ 1024) (hb : b ≤ a) : PC C 192 [numD a, numD b] (fun o => o = .ret (.tup [numD (a - b), .int .i64 0])) := by
  have := Ze2 (lim a) (lim b) (Zz a) (Zz b);rw [Zl, Zl, if_pos hb, Zhl (ZaE ha) (ZaE (Nat.le_trans (Zn hb) ha)) (Nat.le_trans (Zn (Nat.sub_le a b)) ha)] at this;exact this
theorem nMul (a b : Nat) (ha : (lim a).length ≤ 1024) (hb : (lim b).length ≤ 1024) (h : (lim (a * b)).length ≤ 1024) : PC C 66 [numD a, numD b] (fun o => o = .ret (.tup [numD (a * b), .int .i64 0])) := by
  have := ZgD (lim a) (lim b) (Zz a) (Zz b);rw [Zl, Zl, Zhl (ZaE ha) (ZaE hb) h] at this;exact this
theorem nDiv (a b : Nat) (ha : (lim a).length ≤ 1024) (hb : (lim b).length ≤ 1024) (h0 : 0 < b) : PC C 107 [numD a, numD b] (fun o => o = .ret (.tup [numD (a / b), numD (a % b), .int .i64 0])) := by
  have := ZgE (lim a) (lim b) (Zz a) (Zz b)
  have h1 : ¬ (lim b).length = 0 := by have := ZB.2 (show b ≠ 0 by omega); omega
  rw [resD, ZaE ha, ZaE hb, Zl, Zl] at this;simp only [Bool.and_self, cond_true, if_neg h1] at this;exact this
theorem nCmp (a b : Nat) (ha : (lim a).length ≤ 1024) (hb : (lim b).length ≤ 1024) : PC C 57 [numD a, numD b] (fun o => o = .ret (.tup [.int .i64 (cmpI a b), .int .i64 0])) := by
  have := ZiW (lim a) (lim b) (Zz a) (Zz b);rw [resC, ZaE ha, ZaE hb, Zl, Zl] at this;exact this
theorem nPow (a n : Nat) (ha : (lim a).length ≤ 1024) (hn : n ≤ 9223372036854775807) (h : (lim (a ^ n)).length ≤ 1024) : PC C 65 [numD a, .int .i64 (n : Int)] (fun o => o = .ret (.tup [numD (a ^ n), .int .i64 0])) := by
  have := ZlQ a n ha hn;rw [powR, if_pos h] at this;exact this
theorem fitT {n : Nat} (h : n ≤ 9799) : (lim (10 ^ n)).length ≤ 1024 := fit10 (@Nat.pow_lt_pow_right 10 n 9800 (Nat.lt_of_sub_eq_succ rfl) (Nat.lt_succ_of_le h))
theorem Zfm {n : Nat} (h0 : n ≠ 0) (h : n < 4294967296) : lim n = [n] := by
  have h1 : n / B = 0 := Nat.div_eq_of_lt h;have h2 : n % B = n := Nat.mod_eq_of_lt h;rw [Za8 h0, h1, h2, ZA]
theorem numD_sm {n : Nat} (h0 : n ≠ 0) (h : n < 4294967296) : D.sl 1 [.int .u32 (n : Int)] = numD n := by rw [numD, Zfm h0 h]; rfl
theorem ZeT : D.sl 1 [.int .u32 10] = numD 10 := numD_sm (n := 10) (by omega) (by omega)
theorem fit_10 : (lim 10).length ≤ 1024 := by rw [Zfm (by omega) (by omega)]; decide
theorem fit_1 : (lim 1).length ≤ 1024 := by rw [Zfm (by omega) (by omega)]; decide
theorem nTen (n : Nat) (h : n ≤ 9799) : PC C 65 [numD 10, .int .i64 (n : Int)] (fun o => o = .ret (.tup [numD (10 ^ n), .int .i64 0])) := nPow 10 n fit_10 (by omega) (fitT h)
theorem Zkv {n : Nat} (hl : (lim n).length ≤ 1024) : PC C 219 [numD n] (fun o => o = .ret (.bool true)) :=
  (ZdK (lim n) inferInstance).mono fun o ho => by rw [ho, decide_eq_true (show Zed (lim n) from ⟨hl, Zkk n⟩)]
theorem Zlm (a : Nat) (ha : (lim a).length ≤ 1024) : PC C 317 [numD a] (fun o => o = .ret (.tup [.int .i64 ((bl a : Nat) : Int), .int .i64 0])) := by
  refine Znr Tryz.func317 Tryz.ntmps317 Tryz.results317 ?_;refine go ?_;refine Zc rfl rfl (Zkv ha) ?_;refine go ?_;refine Znx rfl ?_;refine go ?_;refine Zc rfl rfl (ZcQ a (by omega)) ?_;refine go ?_;refine ZnA ?_;rfl
section
variable {C : Ctx} {Q : Post} {k : List Item} {env env' : List D} {H : Heap} {df : List ADef} {ops : Array Oper} {e : TypeId} {n : Nat} {J : Heap} {cs : List D} {F : Heap → Heap}
theorem AOps.growEnd {l : List Oper} [g : GrowL H n J e cs F] (t : Nat) (ht : env[t]? = some (Zcl (n + J.length) cs)) (hc : D.pure.pures cs = true) [hp : Put env (some t) (.sl cs.length cs) env'] (hk : ∀ J' : Heap, AOps C Q ops l k env' (F J') df) : AOps C Q ops l k env H df :=
  ⟨fun i hi => ARun.growEnd t ht hc (fun J' => (hk J').out i hi)⟩
end
section
variable {C : Ctx} {env : List D} {H : Heap} {dst : Option Tmp} {ty : TypeId} {pos : String} {aft : Array Edge} {gd : Option (Nat × Bool)} {x : Operand} {d : D}
theorem ZgU {f : FuncId} {caps ds ds' : List D} {args : List Operand} {tys : Array TypeId} (hx : evO C env x = some (.clos f caps)) (ha : evOs C env args = some ds) (hz : FzL H (ds ++ caps) ds' []) (hc : PC C f ds' (fun o => o = .ret d)) : OpQ C ⟨dst, .call ⟨.value x, args.toArray, tys⟩, ty, pos, aft, gd⟩ env H d :=
  OpH.mono (fun d' H' ⟨h1, h2⟩ => by injection h2 with h2; exact ⟨h2, h1⟩) (fun d' H' ⟨_, h2⟩ => by cases h2) (ZhN (H := H) (ids := []) hx ha hz (hc H))
end
theorem dst_ne {l : List Oper} {t : Nat} (h : (l.all fun o => !decide (o.dst = some t)) = true) : ∀ j, ZaN l j ≠ some t := by
  intro j hj;unfold ZaN at hj
  cases ho : l[j]? with
  | none => rw [ho] at hj; cases hj
  | some o =>
    rw [ho] at hj;have h1 := List.all_eq_true.1 h o (List.mem_of_getElem? ho);rw [show o.dst = some t from hj] at h1;simp at h1
theorem step_app {a d i c : Nat} {ys : List Nat} (hu : U32 ys) (hl : ys.length = i) (hc : c < 10) (hv : val ys + B ^ i * c = 10 * (a % B ^ i) + d) :
    U32 (ys ++ [(dig a i * 10 + c) % 4294967296]) ∧ (ys ++ [(dig a i * 10 + c) % 4294967296]).length = i + 1 ∧ (dig a i * 10 + c) / 4294967296 < 10 ∧
      val (ys ++ [(dig a i * 10 + c) % 4294967296]) + B ^ (i + 1) * ((dig a i * 10 + c) / 4294967296) = 10 * (a % B ^ (i + 1)) + d := by
  have hd := ZF a i;refine ⟨hu.snoc (Nat.mod_lt _ (by decide)), by simp [hl], by omega, ?_⟩;rw [ZV, hl, Zat, Nat.pow_succ, Nat.mul_assoc];have h := Nat.div_add_mod (dig a i * 10 + c) 4294967296;generalize (dig a i * 10 + c) % 4294967296 = lo at h ⊢;generalize (dig a i * 10 + c) / 4294967296 = hi at h ⊢;have h2 := congrArg (B ^ i * ·) h;simp only [Nat.mul_add] at h2;have hB : B ^ i * (4294967296 * hi) = B ^ i * (B * hi) := rfl;simp only [val, Nat.mul_zero, Nat.add_zero];rw [Nat.mul_add]
  have e1 : B ^ i * (dig a i * 10) = 10 * (B ^ i * dig a i) := by ac_rfl
  omega
theorem Zms (a d : Nat) (ha : (lim a).length ≤ 1099511627) (hd : d < 10) : PC C 170 [numD a, .int .u64 (d : Int)] (fun o => o = .ret (numD (10 * a + d))) := by
  refine Znr Tryz.func170 Tryz.ntmps170 Tryz.results170 ?_;refine go ?_;refine Znw (S := Nat × Nat × List Nat × Heap) (fun σ : Nat × Nat × List Nat × Heap => [(8, .any), (10, .any), (11, .any), (12, .any), (13, .any), (14, .any), (15, .any), (16, .any), (17, .any), (18, .any), (19, .any), (20, .any), (21, .any), (22, .any), (23, .any), (24, .any), (25, .any), (26, .any), (27, .any), (28, .any), (29, .any), (30, .any), (5, Zcl (0 + σ.2.2.2.length) (nts .u32 σ.2.2.1)), (6, .int .u64 (σ.2.1 : Int)), (7, .int .i64 (σ.1 : Int))]) (fun σ : Nat × Nat × List Nat × Heap => Za6 σ.2.2.2 Zs (nts .u32 σ.2.2.1)) (fun σ : Nat × Nat × List Nat × Heap => U32 σ.2.2.1 ∧ σ.2.2.1.length = σ.1 ∧ σ.1 ≤ (lim a).length ∧ σ.2.1 < 10 ∧ val σ.2.2.1 + B ^ σ.1 * σ.2.1 = 10 * (a % B ^ σ.1) + d) (fun σ : Nat × Nat × List Nat × Heap => (lim a).length - σ.1) ((0, d, [], [])) ?_ ?_
  · exact ⟨U32.nil, rfl, Nat.zero_le _, hd, by simp [val, Nat.mod_one]⟩
  rintro ⟨i, c, ys, J⟩ hinv ih;dsimp only at hinv ih ⊢;obtain ⟨hu, hl, hi, hc, hv⟩ := hinv
  have hbl : (nts .u32 ys).length = i := by rw [ZcL, hl]
  refine go ?_;refine Znp rfl (fun h => ?_) (fun h => ?_)
  · skip
    have d1 := ZF a i;refine go ?_;refine Za rfl (Zm rfl rfl rfl rfl (by omega) (by omega) (Zam (by omega)) (ZM rfl)) ?_;refine Za rfl (ZP rfl rfl rfl (Zaj (by omega))) ?_;refine Za rfl (Zo rfl rfl rfl (Zt (by omega))) ?_;refine Za rfl (ZaC rfl rfl (Zdv (n := 10) (by omega))) ?_;refine Zr ?_;refine Za rfl (Zf rfl rfl (Zaf (by omega))) ?_;refine go ?_;refine Za rfl (Zo rfl rfl rfl ZX) ?_;refine Zq rfl (Z9 rfl rfl rfl rfl rfl rfl rfl rfl rfl rfl rfl (by decide) (by decide)) ?_;refine Zju rfl rfl rfl rfl rfl rfl rfl rfl rfl rfl (by show (_ + 1) * 4 ≤ _; omega) (by omega) (fun J' => ?_);rw [Zdy];refine gn ?_;refine Za rfl (Za5 rfl rfl (by omega) Zcn) ?_;refine gn ?_;refine Za rfl (Zf rfl rfl (Zi (by omega))) ?_;refine go ?_;refine ARun.ag (ih ((i + 1, (dig a i * 10 + c) / 4294967296, ys ++ [(dig a i * 10 + c) % 4294967296], J')) ?_ ?_)
    · (obtain ⟨k1, k2, k3, k4⟩ := step_app hu hl hc hv; exact ⟨k1, k2, by dsimp only; omega, k3, k4⟩)
    (dsimp only; omega)
  have hin : i = (lim a).length := by omega
  have hmod : a % B ^ i = a := Nat.mod_eq_of_lt (by rw [hin]; exact ZcV a);have hu2 : U32 (ys ++ [c]) := hu.snoc (by omega)
  have hval : val (ys ++ [c]) = 10 * a + d := by
    rw [ZV, hl]; simp only [val, Nat.mul_zero, Nat.add_zero]; rw [hv, hmod]
  refine ARun.exit rfl ?_;refine go ?_;refine Za rfl (Zo rfl rfl rfl (show _ = ((c : Nat) : Int) by rw [IntKind.wrap_u32]; omega)) ?_;refine Zq rfl (Z9 rfl rfl rfl rfl rfl rfl rfl rfl rfl rfl rfl (by decide) (by decide)) ?_;refine Zju rfl rfl rfl rfl rfl rfl rfl rfl rfl rfl (by show (_ + 1) * 4 ≤ _; omega) (by omega) (fun J' => ?_);rw [Zdy];refine AOps.growEnd 35 rfl (ZT _) (fun J' => ?_);rw [ZiH];refine Zc rfl rfl (ZdV (ys ++ [c]) hu2 (by rw [List.length_append, List.length_singleton]; omega)) ?_;refine go ?_;refine Zno ?_;rw [hval]; try rfl
section
variable {C : Ctx} {env : List D} {H : Heap} {dst : Option Tmp} {ty : TypeId} {pos : String} {aft : Array Edge} {gd : Option (Nat × Bool)} {x : Operand} {T T' U xT : TypeId} {d dz : D} {te : TE}
theorem ZlR (ht : C.ty T = some te) (hc : conK te.k = true) (hz : Zas te.zero = some dz) (hx : evO C env x = some (.iface T' d)) (hT : Nat.beq T' T = false) : OpQ C ⟨dst, .typeAssert x xT T true, ty, pos, aft, gd⟩ env H (.tup [dz, .bool false]) :=
  OpQ.of_run fun L w μ a he => by
    have ex := he _ _ hx;simp only [VR] at ex;obtain ⟨u, ex, hu⟩ := ex;have hz' : VR w L μ H dz te.zero := ZaZ hz;refine ⟨.tuple #[te.zero, .bool false], ?_, by simp only [VR, VRs]; exact ⟨[te.zero, .bool false], rfl, _, _, rfl, hz', _, _, rfl, rfl, rfl⟩⟩;have hun := (ZU ht).1.run_un w;have hzr := (ZU ht).1.run_zero w;have hk := (C.ok T te ht).2
    have hTT : T' ≠ T := fun e => by rw [e] at hT; exact absurd (Nat.beq_refl T) (by rw [hT]; decide)
    have hne : ∀ ms, Zd8 C.P T ≠ .interface ms := by
      intro ms e;have hu2 := (ZU ht).1.un;rw [e] at hu2
      cases hkk : te.k <;> rw [hkk] at hk hc <;> simp only [TKok] at hk <;> first | (cases hc; done) | (rw [hu2] at hk; cases hk; done) | (obtain ⟨_, h1, _⟩ := hk; rw [hu2] at h1; cases h1; done) | (obtain ⟨_, h1⟩ := hk; rw [hu2] at h1; cases h1)
    simp only [execOp, ex, Instr.typeAssert, Sem.run_bind, hun, Result.andThen_ok];generalize Zd8 C.P T = dsc at hne
    cases dsc <;> first | (exact (hne _ rfl).elim) | simp [hTT, hzr]
end
open Go.RowKit
section
variable {C : Ctx} {Q : Post} {k : List Item} {env : List D} {H : Heap} {df : List ADef} {n S b : Nat} {J : Heap} {cs : List D} {F : Heap → Heap} {zv : Value} {x : Operand} {T e e' : TypeId} {dst : Option Tmp} {ty : TypeId} {pos : String} {aft : Array Edge} {gd : Option (Nat × Bool)}
end
theorem ZnQ {C : Ctx} {Q : Post} {k : List Item} {env : List D} {H : Heap} {df : List ADef} {S : Type} {c : Code} {E : S → List D} (cs : S → List (Nat × D)) (HS : S → Heap) (J : S → Prop) [hE : ∀ s, Puts env (cs s) (E s)] (h1 : (∀ s, J s → ARun C Q k (E s) (HS s) df) → ARun C Q (.code c :: k) env H df) (h2 : ∀ s, J s → ARun C Q k (E s) (HS s) df) : ARun C Q (.code c :: k) env H df := h1 h2
theorem HC.gl {P : Program} {gl : List (Nat × List D)} {ty : TypeId → Option TE} {ok : ∀ t te, ty t = some te → TEok P t te} {f : FuncId} {H : Heap} {args : List D} {R : Out → Heap → Prop} (h : HC ⟨P, [], ty, ok⟩ f H args R) : HC ⟨P, gl, ty, ok⟩ f H args R := by
  refine ⟨h.1, fun L0 w μ vs hs ha => ?_⟩
  refine (h.2 L0 w μ vs ⟨hs.len, hs.obj, hs.inj, hs.own, hs.lim, fun g cs hg => by cases hg⟩ ha).mono fun e w' hfin => ?_
  obtain ⟨o, H1, μ1, h1, s1, h3, h4⟩ := hfin;refine ⟨o, H1, μ1, h1, ⟨s1.len, s1.obj, s1.inj, s1.own, s1.lim, fun g cs hg => ?_⟩, h3, h4⟩;obtain ⟨g1, g2, g3⟩ := hs.glob g cs hg;have st := h4.step L0;exact ⟨Nat.lt_of_lt_of_le g1 st.size, st.keep g g1 g2, GR.step st.pure g1 g2 g3⟩
theorem PC.gl {P : Program} {gl : List (Nat × List D)} {ty : TypeId → Option TE} {ok : ∀ t te, ty t = some te → TEok P t te} {f : FuncId} {args : List D} {r : Out → Prop} (h : PC ⟨P, [], ty, ok⟩ f args r) : PC ⟨P, gl, ty, ok⟩ f args r := fun H => (h H).gl
section
variable {C : Ctx} {env : List D} {H : Heap} {dst : Option Tmp} {ty : TypeId} {pos : String} {aft : Array Edge} {gd : Option (Nat × Bool)} {x y : Operand} {T T' e : TypeId}
def valD : D → Option Value
  | .int k n => some (.int k n)
  | .bool b => some (.bool b)
  | .str s => some (.string s)
  | _ => none
def Zii : List D → Option (List Value)
  | [] => some []
  | d :: ds => match valD d, Zii ds with
    | some v, some vs => some (v :: vs)
    | _, _ => none
end
open Go.RowKit Go.ChangeShapes Go.WideShapes
def litV : Lit → Option Value
  | .int k n => some (.int k n)
  | .bool b => some (.bool b)
  | .string l => some (.string ⟨l.toArray⟩)
  | _ => none
mutual
def flatV {H : Type} : DataW H → Option (List Value)
  | .lit l => match litV l with
    | some v => some [v]
    | none => none
  | .agg ds => ZfX ds
  | _ => none
def ZfX {H : Type} : List (DataW H) → Option (List Value)
  | [] => some []
  | d :: ds => match flatV d, ZfX ds with
    | some a, some b => some (a ++ b)
    | _, _ => none
end
def Zjx (P : Program) : List Field → Nat → Nat → Bool
  | [], off, tot => off == tot
  | f :: fs, off, tot => f.offset == off && Zjx P fs (off + P.cellsOf f.type) tot
def Zij (P : Program) : Nat → TypeId → Bool
  | 0, _ => false
  | m + 1, t => match P.underlying t with
    | some .bool => true
    | some (.int _) => true
    | some .string => true
    | some (.array n e) => Zij P m e && P.cellsOf t == n * P.cellsOf e
    | some (.struct fs) => fs.toList.all (fun f => Zij P m f.type) && Zjx P fs.toList 0 (P.cellsOf t)
    | _ => false
section
variable {H : Type} {enc : TypeId × Value → H} {P : Program} {w : World} {base : Nat} {sp : Nat → Bool} {held : Bool}
theorem Zik {fuel m : Nat} (IH : ∀ (t : TypeId) (cs : List Value) (x : DataW H × List MemPlace), Zij P m t = true → DataW.trod enc P w base sp held fuel t cs = some x → flatV x.1 = some cs) (cs : List Value) : ∀ (fs : List Field) (off : Nat) (xs : List (DataW H × List MemPlace)),
    fs.all (fun f => Zij P m f.type) = true → Zjx P fs off cs.length = true → fs.mapM (fun f => DataW.trod enc P w base sp held fuel f.type ((cs.drop f.offset).take (P.cellsOf f.type))) = some xs → ZfX (xs.map (·.1)) = some (cs.drop off)
  | [], off, xs, _, hc, hx => by
    simp only [Zjx, beq_iff_eq] at hc;simp at hx;subst hx;subst hc;simp [ZfX]
  | f :: fs, off, xs, ha, hc, hx => by
    simp only [Zjx, Bool.and_eq_true, beq_iff_eq] at hc;obtain ⟨rfl, hc⟩ := hc;rw [List.all_cons, Bool.and_eq_true] at ha;rw [List.mapM_cons] at hx;simp only [bind, Option.bind_eq_some_iff, pure, Option.some.injEq] at hx;obtain ⟨x, hx1, xs', hx2, rfl⟩ := hx;have h1 := IH _ _ _ ha.1 hx1;have h2 := Zik IH cs fs _ xs' ha.2 hc hx2;simp only [List.map_cons, ZfX, h1, h2];rw [← List.drop_drop, List.take_append_drop]
theorem Zjy {fuel m : Nat} {e : TypeId} (IH : ∀ (t : TypeId) (cs : List Value) (x : DataW H × List MemPlace), Zij P m t = true → DataW.trod enc P w base sp held fuel t cs = some x → flatV x.1 = some cs) (he : Zij P m e = true) (cs : List Value) : ∀ (n i : Nat) (xs : List (DataW H × List MemPlace)),
    cs.length = (i + n) * P.cellsOf e → (List.range' i n).mapM (fun i => DataW.trod enc P w base sp held fuel e ((cs.drop (i * P.cellsOf e)).take (P.cellsOf e))) = some xs → ZfX (xs.map (·.1)) = some (cs.drop (i * P.cellsOf e))
  | 0, i, xs, hc, hx => by
    simp at hx;subst hx;have : cs.drop (i * P.cellsOf e) = [] := List.drop_eq_nil_of_le (by rw [hc]; exact Nat.le_refl _);rw [this];simp [ZfX]
  | n + 1, i, xs, hc, hx => by
    rw [List.range'_succ, List.mapM_cons] at hx;simp only [bind, Option.bind_eq_some_iff, pure, Option.some.injEq] at hx;obtain ⟨x, hx1, xs', hx2, rfl⟩ := hx;have h1 := IH _ _ _ he hx1;have h2 := Zjy IH he cs n (i + 1) xs' (by rw [hc]; congr 1; omega) hx2;simp only [List.map_cons, ZfX, h1, h2];rw [Nat.add_mul, Nat.one_mul, ← List.drop_drop, List.take_append_drop]
theorem flat_ok : ∀ (m fuel : Nat) (t : TypeId) (cs : List Value) (x : DataW H × List MemPlace), Zij P m t = true → DataW.trod enc P w base sp held fuel t cs = some x → flatV x.1 = some cs
  | 0, _, _, _, _, h, _ => by cases h
  | m + 1, 0, _, _, _, _, h => by simp [DataW.trod] at h
  | m + 1, fuel + 1, t, cs, x, hf, h => by
    unfold Zij at hf
    split at hf
    · rename_i hu
      obtain ⟨b, rfl, rfl⟩ := DataW.trod_bool hu h;rfl
    · rename_i k hu
      obtain ⟨n, rfl, rfl, _⟩ := DataW.trod_int hu h;rfl
    · rename_i hu
      obtain ⟨s, rfl, rfl, _⟩ := DataW.trod_string hu h;obtain ⟨⟨l⟩⟩ := s;rfl
    · rename_i n e hu
      rw [Bool.and_eq_true, beq_iff_eq] at hf;unfold DataW.trod at h;simp only [hu] at h
      split at h
      · rename_i hl
        simp only [Option.map_eq_some_iff] at h;obtain ⟨xs, hx, rfl⟩ := h;have := Zjy (fun t cs x => flat_ok m fuel t cs x) hf.1 cs n 0 xs (by rw [hl, hf.2, Nat.zero_add]) (by rw [← List.range_eq_range']; exact hx)
        simpa [flatV] using this
      cases h
    · rename_i fs hu
      rw [Bool.and_eq_true] at hf;unfold DataW.trod at h;simp only [hu] at h
      split at h
      · rename_i hl
        simp only [Option.map_eq_some_iff] at h;obtain ⟨xs, hx, rfl⟩ := h;have := Zik (fun t cs x => flat_ok m fuel t cs x) cs fs.toList 0 xs hf.1 (by rw [hl]; exact hf.2) hx
        simpa [flatV] using this
      cases h
    cases hf
end
theorem VRL_vals {w : World} {L : Nat → Prop} {g : Nat} : ∀ {ds : List D} {vs : List Value} {k : Nat}, Zii ds = some vs → (∀ (j : Nat) (v : Value), vs[j]? = some v → w.cell? ⟨g, k + j, none⟩ = some v) → VRL w L ⟨g, 0, none⟩ k ds := by
  intro ds
  induction ds with
  | nil => intro vs k _ _; simp only [VRL]
  | cons d ds ih =>
    intro vs k hv h;simp only [Zii] at hv
    split at hv
    · rename_i v vs' h1 h2
      injection hv with hv; subst hv
      simp only [VRL];refine ⟨⟨v, ?_, ?_, ?_⟩, ih h2 (fun j u hj => ?_)⟩
      · have := h 0 v rfl
        by_cases hk : k = 0
        · subst hk; simpa [Addr.add] using this
        simpa [Addr.add, hk] using this
      · cases d <;> simp only [valD] at h1 <;> first | (injection h1 with h1; subst h1; rfl) | cases h1
      · cases d <;> simp only [valD] at h1 <;> first | (injection h1 with h1; subst h1; simp only [VR]) | cases h1
      rw [show k + 1 + j = k + (j + 1) by omega];exact h (j + 1) u (by simpa using hj)
    cases hv
class PS (env : List D) (b : Nat) (l : List (Nat × D)) (env' : outParam (List D)) : Prop where
  len : env.length = env'.length
instance PS.nil {env : List D} {b : Nat} : PS env b [] env := ⟨rfl⟩
instance (priority := low) PS.miss {env env' : List D} {b : Nat} {l : List (Nat × D)} {x : D} [h : PS env (b + 1) l env'] : PS (x :: env) b l (x :: env') := ⟨by simp [h.len]⟩
instance PS.hit {env env' : List D} {b : Nat} {l : List (Nat × D)} {x d : D} [h : PS env (b + 1) l env'] : PS (x :: env) b ((b, d) :: l) (d :: env') := ⟨by simp [h.len]⟩
instance (priority := high) Puts.sorted {env env' : List D} {l : List (Nat × D)} [h : PS env 0 l env'] : Puts env l env' := ⟨h.len⟩
section
variable {C : Ctx} {Q : Post} {ops : Array Oper} {rest rest2 : List Oper} {k : List Item} {v v' e1 e2 : List D} {H : Heap} {df : List ADef} {b c : Bool}
theorem AOps.env (hl : ZcU v v') (h : AOps C Q ops rest k v' H df) : AOps C Q ops rest k v H df := ⟨fun i hi => ARun.env hl (h.out i hi)⟩
theorem AOps.ag (h : AOps C Q ops rest k v' H df) (hl : ZcU v v' := by (repeat' first | exact Zag | apply Zah | apply Z4)) : AOps C Q ops rest k v H df := AOps.env hl h
theorem Znu {E : Bool → List D} (t : Nat) (cs : Bool → List (Nat × D)) [hE : ∀ s, Puts v (cs s) (E s)] (hb : v[t]? = some (.bool b)) [h1 : PutL v t (.bool true) e1] [h2 : PutL v t (.bool false) e2]
    (k1 : b = true → AOps C Q ops rest2 k (E c) H df → AOps C Q ops rest k e1 H df) (k2 : b = false → AOps C Q ops rest2 k (E false) H df → AOps C Q ops rest k e2 H df) (k3 : AOps C Q ops rest2 k (E (b && c)) H df) : AOps C Q ops rest k v H df :=
  AOps.bool t hb (fun h => k1 h (by rw [h, Bool.true_and] at k3; exact k3)) (fun h => k2 h (by rw [h, Bool.false_and] at k3; exact k3))
theorem ZnB {E : Bool → List D} (t : Nat) (cs : Bool → List (Nat × D)) [hE : ∀ s, Puts v (cs s) (E s)] (hb : v[t]? = some (.bool b)) [h1 : PutL v t (.bool true) e1] [h2 : PutL v t (.bool false) e2]
    (k1 : b = true → AOps C Q ops rest2 k (E true) H df → AOps C Q ops rest k e1 H df) (k2 : b = false → AOps C Q ops rest2 k (E c) H df → AOps C Q ops rest k e2 H df) (k3 : AOps C Q ops rest2 k (E (b || c)) H df) : AOps C Q ops rest k v H df :=
  AOps.bool t hb (fun h => k1 h (by rw [h, Bool.true_or] at k3; exact k3)) (fun h => k2 h (by rw [h, Bool.false_or] at k3; exact k3))
end
section
variable {C : Ctx} {env : List D} {H : Heap} {dst : Option Tmp} {ty : TypeId} {pos : String} {aft : Array Edge} {gd : Option (Nat × Bool)} {T e : TypeId}
end
theorem ZgO (n : Nat) : (dgs 10 n).length = dl n := by
  induction n using Nat.strongRecOn with
  | _ n ih =>
    rcases Nat.eq_zero_or_pos n with h | h
    · subst h; rw [ZfV, Zem]; rfl
    rw [Zfk (by omega) h, ZhW h, List.length_cons, ih _ (Nat.div_lt_self h (by omega))]
theorem dgs_get : ∀ (k n : Nat), k < dl n → (dgs 10 n)[k]? = some (n / 10 ^ k % 10)
  | 0, n, h => by
    have h0 : 0 < n := by rcases Nat.eq_zero_or_pos n with h0 | h0; subst h0; rw [Zem] at h; omega; exact h0
    rw [Zfk (by omega) h0]; simp
  | k + 1, n, h => by
    have h0 : 0 < n := by rcases Nat.eq_zero_or_pos n with h0 | h0; subst h0; rw [Zem] at h; omega; exact h0
    rw [ZhW h0] at h;rw [Zfk (by omega) h0, List.getElem?_cons_succ, dgs_get k (n / 10) (by omega), Nat.div_div_eq_div_mul, Nat.pow_succ, Nat.mul_comm 10]
def tx (a : Nat) : List Nat := if a = 0 then [48] else ((dgs 10 a).map (48 + ·)).reverse
theorem Zjz {a : Nat} (h : 0 < a) : (tx a).length = dl a := by unfold tx; rw [if_neg (by omega)]; simp [ZgO]
theorem tx_get {a k : Nat} (h : k < dl a) : (tx a)[dl a - 1 - k]? = some (48 + a / 10 ^ k % 10) := by
  have h0 : a ≠ 0 := by rintro rfl; rw [Zem] at h; omega
  unfold tx; rw [if_neg h0];rw [List.getElem?_reverse (by simp [ZgO]; omega), List.length_map, ZgO, show dl a - 1 - (dl a - 1 - k) = k by omega, List.getElem?_map, dgs_get k a h]; rfl
theorem dgs9 {q n i : Nat} (hi : i < 9) (h : 0 < q * 10 ^ (9 - i) + n) : dgs 10 (q * 10 ^ (9 - i) + n) = (n % 10) :: dgs 10 (q * 10 ^ (9 - (i + 1)) + n / 10) := by
  have e : q * 10 ^ (9 - i) = q * 10 ^ (9 - (i + 1)) * 10 := by rw [Nat.mul_assoc, ← Nat.pow_succ]; congr 2; omega
  rw [Zfk (by omega) h, e]
  congr 1
  · omega
  congr 1; omega
theorem Zfx {J : Heap} {x : Option AObj} : (J ++ [x])[J.length]? = some x := by simp
theorem setK0 {J : Heap} {x y : Option AObj} : (J ++ [x]).set J.length y = J ++ [y] := by simp
theorem lim_at0 {r : Nat} (h : r < 4294967296) : (lim r).getD 0 0 = r := by
  rcases Nat.eq_zero_or_pos r with h0 | h0
  · subst h0; rw [ZA]; rfl
  rw [Zfm (by omega) h]; rfl
theorem Zj7 (a : Nat) (ha : (lim a).length ≤ 1024) : PC C 150 [numD a] (fun o => o = .ret (.str (ZbV (tx a)))) := by
  have hfit : dl a ≤ 32768 := by rw [← ZgO]; exact dgs_fit (by omega) ha
  refine Znr Tryz.func150 Tryz.ntmps150 Tryz.results150 ?_;refine go ?_;refine Znp rfl (fun h => ?_) (fun h => ?_)
  · skip
    have h0 : a = 0 := by
      rcases Nat.eq_zero_or_pos a with h0 | h0
      · exact h0
      exfalso; rw [Za8 (by omega), List.length_cons] at h; omega
    subst h0;refine go ?_;refine Zno ?_;rfl
  have hpos : 0 < a := by
    rcases Nat.eq_zero_or_pos a with h0 | h0
    · subst h0; exfalso; apply h; rw [ZA]; rfl
    exact h0
  refine ARun.skip (zzs ?_); refine zza ?_; refine AOps.nil (ARun.seq (ARun.block ?_));refine ARun.hp (H' := Za6 [] ZeZ (nts .u8 (([] : List Nat).map (48 + ·)))) rfl ?_;refine Znw (S := Nat × List Nat × Heap) (fun σ : Nat × List Nat × Heap => [(4, .any), (5, .any), (6, .any), (12, .any), (13, .any), (14, .any), (15, .any), (16, .any), (17, .any), (18, .any), (19, .any), (20, .any), (21, .any), (22, .any), (23, .any), (24, .any), (25, .any), (26, .any), (27, .any), (28, .any), (29, .any), (30, .any), (31, .any), (32, .any), (33, .any), (34, .any), (35, .any), (36, .any), (37, .any), (38, .any), (39, .any), (40, .any), (41, .any), (42, .any), (43, .any), (0, numD σ.1), (3, Zcl (0 + σ.2.2.length) (nts .u8 (σ.2.1.map (48 + ·))))]) (fun σ : Nat × List Nat × Heap => Za6 σ.2.2 ZeZ (nts .u8 (σ.2.1.map (48 + ·)))) (fun σ : Nat × List Nat × Heap => dgs 10 a = σ.2.1 ++ dgs 10 σ.1 ∧ (lim σ.1).length ≤ 1024) (fun σ : Nat × List Nat × Heap => σ.1) ((a, [], [])) ?_ ?_
  · exact ⟨rfl, ha⟩
  rintro ⟨v, L, J⟩ hinv ih;dsimp only at hinv ih ⊢;obtain ⟨hL, hv⟩ := hinv;refine go ?_;refine Znp rfl (fun g => ?_) (fun g => ?_)
  · skip
    have hv0 : 0 < v := by
      rcases Nat.eq_zero_or_pos v with h0 | h0
      · subst h0; exfalso; rw [ZA] at g; exact absurd g (by decide)
      exact h0
    have hat : PC C 168 [numD (v % 1000000000), .int .i64 0] (fun o => o = .ret (.int .u64 ((v % 1000000000 : Nat) : Int))) := (Zmc (lim (v % 1000000000)) (Zz _) 0).mono fun o ho => by rw [ho, lim_at0 (by omega)]
    refine go ?_;refine Zc rfl rfl (Zi1 v 1000000000 (by omega) (by omega) (by omega)) ?_;refine ZI rfl rfl rfl rfl rfl rfl rfl rfl rfl rfl rfl ?_;refine go ?_;refine Zc rfl rfl (hat) ?_;refine go ?_;refine Znw (S := Nat × Nat × List Nat × Heap) (fun σ : Nat × Nat × List Nat × Heap => [(22, .any), (23, .any), (24, .any), (25, .any), (26, .any), (27, .any), (28, .any), (29, .any), (30, .any), (31, .any), (32, .any), (33, .any), (34, .any), (35, .any), (36, .any), (37, .any), (38, .any), (39, .any), (40, .any), (41, .any), (42, .any), (43, .any), (5, .int .u64 (σ.2.1 : Int)), (6, .int .i64 (σ.1 : Int)), (3, Zcl (0 + σ.2.2.2.length) (nts .u8 (σ.2.2.1.map (48 + ·))))]) (fun σ : Nat × Nat × List Nat × Heap => Za6 σ.2.2.2 ZeZ (nts .u8 (σ.2.2.1.map (48 + ·)))) (fun σ : Nat × Nat × List Nat × Heap => dgs 10 a = σ.2.2.1 ++ dgs 10 (v / 1000000000 * 10 ^ (9 - σ.1) + σ.2.1) ∧ σ.1 ≤ 9 ∧ σ.2.1 < 10 ^ (9 - σ.1)) (fun σ : Nat × Nat × List Nat × Heap => 9 - σ.1) ((0, v % 1000000000, L, J)) ?_ ?_
    · exact ⟨by rw [hL, show 10 ^ (9 - 0) = 1000000000 from rfl, Nat.div_add_mod'], by omega, Nat.mod_lt _ (by omega)⟩
    rintro ⟨i, n, M, K⟩ hinv ihi;dsimp only at hinv ihi ⊢;obtain ⟨i1, i2, i3⟩ := hinv;have hn9 : n < 1000000000 := Nat.lt_of_lt_of_le i3 (show 10 ^ (9 - i) ≤ 10 ^ 9 from Nat.pow_le_pow_right (Nat.succ_pos 9) (Nat.sub_le _ _));have hq : 0 < (lim (v / 1000000000)).length ↔ v / 1000000000 ≠ 0 := ZB;refine ARun.seq (zzs ?_); refine Zr ?_; refine zzi ?_; refine Zr ?_;apply Znu 24 (fun sj1 => [(24, .any), (25, .any), (26, .any), (27, .any), (28, .any), (29, .any), (30, .any), (31, .any), (32, .bool sj1)]) rfl
    · intro hj1 run1
      try replace hj1 := Zh hj1
      refine Zr ?_; refine zzi ?_; refine Zr ?_;apply ZnB 27 (fun sj2 => [(27, .any), (28, .any), (29, .any), (30, .any), (31, .bool sj2)]) rfl
      · intro hj2 run2
        try replace hj2 := Zh hj2
        refine Zg ?_; refine Zg ?_; refine Zg ?_; refine ZK ?_;exact AOps.ag run2
      · intro hj2 run2
        try replace hj2 := Zj hj2
        refine Zr ?_; refine zzN ?_; refine zzi ?_; refine ZK ?_;exact AOps.ag run2
      refine ZK ?_;exact AOps.ag run1
    · intro hj1 run1
      try replace hj1 := Zj hj1
      refine Zg ?_; refine Zg ?_; refine Zg ?_; refine Zg ?_; refine Zg ?_; refine Zg ?_; refine Zg ?_; refine ZK ?_;exact AOps.ag run1
    refine AOps.nil ?_;refine ARun.cond rfl (fun hc => ?_) (fun hc => ?_)
    · skip
      simp only [Bool.and_eq_true, Bool.or_eq_true, decide_eq_true_eq] at hc
      have hi9 : i < 9 := by omega
      have hw : 0 < v / 1000000000 * 10 ^ (9 - i) + n := by
        rcases hc.2 with h1 | h1
        · omega
        have := Nat.mul_pos (Nat.pos_of_ne_zero (hq.1 (by omega))) (Nat.pow_pos (n := 9 - i) (Nat.succ_pos 9)); exact Nat.add_pos_left this _
      have hd := dgs9 hi9 hw
      have hML : M.length + 1 ≤ 32768 := by
        have := congrArg List.length i1;rw [hd, List.length_append, List.length_cons, ZgO] at this;omega
      have hnl : (nts .u8 (M.map (48 + ·))).length = M.length := by rw [ZcL, List.length_map]
      have h10 : n / 10 < 10 ^ (9 - (i + 1)) := by
        rw [Nat.div_lt_iff_lt_mul (by omega), ← Nat.pow_succ, show (9 - (i + 1)).succ = 9 - i by omega]; exact i3
      refine gn ?_;refine Za rfl (Zdt rfl rfl (by omega) (nrem (n := 10) rfl)) ?_;refine Za rfl (Zf rfl rfl (Zaf (m := 48) (by omega))) ?_;refine Za rfl (Zo rfl rfl rfl (show _ = ((48 + n % 10 : Nat) : Int) by rw [IntKind.wrap_u8]; omega)) ?_;refine Za rfl (Zd rfl rfl rfl rfl rfl rfl rfl rfl rfl rfl rfl (by decide) (by decide) rfl) ?_;refine Znl (dx := .int .u8 ((48 + n % 10 : Nat) : Int)) rfl rfl rfl rfl rfl rfl rfl rfl rfl (by show (_ + 1) * 1 ≤ _; omega) (by omega) (fun K' => ?_);rw [show nts .u8 (M.map (48 + ·)) ++ [D.int .u8 ((48 + n % 10 : Nat) : Int)] = nts .u8 ((M ++ [n % 10]).map (48 + ·)) by simp [nts]];refine gn ?_;refine Za rfl (ZaQ rfl rfl (by omega) (ZeP (n := 10) rfl (by omega))) ?_;refine gn ?_;refine Za rfl (Zf rfl rfl (Zi (by omega))) ?_;refine go ?_;refine ZnC (ihi ((i + 1, n / 10, M ++ [n % 10], K')) ?_ ?_) ?_ ?_
      · exact ⟨by dsimp only; rw [i1, hd, List.append_assoc]; rfl, by dsimp only; omega, h10⟩
      · (dsimp only; omega)
      · (repeat' first | exact Zag | apply Zah | apply Z4)
      rfl
    simp only [Bool.and_eq_false_iff, Bool.or_eq_false_iff, decide_eq_false_iff_not] at hc
    have hdone : dgs 10 (v / 1000000000 * 10 ^ (9 - i) + n) = dgs 10 (v / 1000000000) := by
      rcases hc with h1 | ⟨h1, h2⟩
      · have e : 9 - i = 0 := by omega
        rw [e] at i3 ⊢;rw [Nat.pow_zero] at i3 ⊢
        congr 1; omega
      have e1 : v / 1000000000 = 0 := by
        rcases Nat.eq_zero_or_pos (v / 1000000000) with h0 | h0
        · exact h0
        have := hq.2 (by omega); omega
      rw [e1]; congr 1; omega
    refine ARun.exit rfl ?_;refine ARun.inBlock ?_;refine ARun.ag (ih ((v / 1000000000, M, K)) ?_ ?_)
    · exact ⟨by dsimp only; rw [i1, hdone], Nat.le_trans (Zn (Nat.div_le_self _ _)) hv⟩
    exact Nat.div_lt_self hv0 (by omega)
  have hv0 : v = 0 := by
    rcases Nat.eq_zero_or_pos v with h0 | h0
    · exact h0
    exfalso; apply g; rw [Za8 (by omega), List.length_cons]; omega
  subst hv0;rw [ZfV, List.append_nil] at hL;subst hL
  have htx : tx a = ((dgs 10 a).map (48 + ·)).reverse := by unfold tx; rw [if_neg (by omega)]
  rw [htx]
  have hne : (dgs 10 a).map (48 + ·) ≠ [] := by rw [Zfk (by omega) hpos]; simp
  have hln : ((dgs 10 a).map (48 + ·)).length ≤ 32768 := by rw [List.length_map, ZgO]; exact hfit
  have hu8 : ∀ x ∈ (dgs 10 a).map (48 + ·), x < 256 := by
    intro x hx;obtain ⟨d, hd, rfl⟩ := List.mem_map.1 hx;have := dgs_lt (show 2 ≤ 10 by omega) a d hd;omega
  generalize (dgs 10 a).map (48 + ·) = X at *;obtain ⟨x, l, rfl⟩ := List.exists_cons_of_ne_nil hne;rw [show Zcl (0 + J.length) (nts .u8 (x :: l)) = D.row J.length (x :: l).length by simp [Zcl, nts]];refine ARun.hp (H' := J ++ [rowB (x :: l)]) (by simp [Za6, nts]) ?_;refine ARun.exit rfl ?_;refine go ?_;refine Znw (S := Nat × List Nat) (fun σ : Nat × List Nat => [(8, .any), (44, .any), (45, .any), (46, .any), (47, .any), (48, .any), (49, .any), (50, .any), (51, .any), (52, .any), (53, .any), (54, .any), (55, .any), (56, .any), (57, .any), (58, .any), (59, .any), (60, .any), (61, .any), (62, .any), (63, .any), (64, .any), (65, .any), (66, .any), (67, .any), (68, .any), (69, .any), (70, .any), (71, .any), (72, .any), (73, .any), (7, .int .i64 (σ.1 : Int))]) (fun σ : Nat × List Nat => J ++ [rowB σ.2]) (fun σ : Nat × List Nat => RevI (x :: l) σ.2 σ.1) (fun σ : Nat × List Nat => (x :: l).length - σ.1) ((0, x :: l)) ?_ ?_
  · exact RevI.start (x :: l)
  rintro ⟨i, ys⟩ hinv ih;dsimp only at hinv ih ⊢;have hl := hinv.l;have hh := hinv.h;refine go ?_;refine Za rfl (Zbv rfl Zfx rfl) ?_;refine Za rfl (ZaQ rfl rfl (by omega) (Zay (n := 2) rfl (by omega))) ?_;refine go ?_;refine Znp rfl (fun q => ?_) (fun q => ?_)
  · skip
    obtain ⟨j, hj⟩ : ∃ j : Nat, j + i + 1 = (x :: l).length := ⟨(x :: l).length - 1 - i, by omega⟩
    have hij : i < j := by omega
    refine go ?_;refine Za rfl (ZS rfl rfl rfl rfl Zfx (by omega) (by omega) (Zab rfl)) ?_;refine Za rfl (ZC rfl rfl rfl Zfx (ZdP (xs := ys) (i := i) (by omega))) ?_;refine go ?_;refine Za rfl (Zbv rfl Zfx rfl) ?_;refine Za rfl (Zk rfl rfl (show _ = (((x :: l).length - 1 : Nat) : Int) by rw [IntWalk.i64_in _ (by omega)]; omega)) ?_;refine Zr ?_;refine Za rfl (Zk rfl rfl (show _ = (j : Int) by rw [IntWalk.i64_in _ (by omega)]; omega)) ?_;refine Za rfl (ZS rfl rfl rfl rfl Zfx (by omega) (by omega) (Zab rfl)) ?_;refine Za rfl (ZC rfl rfl rfl Zfx (ZdP (xs := ys) (i := j) (by omega))) ?_;refine Za rfl (ZS rfl rfl rfl rfl Zfx (by omega) (by omega) (Zab rfl)) ?_;refine Zq rfl (Zad (pl := ⟨setK0⟩) (ob := ⟨nts .u8 ys, ZeZ, 1, true, none⟩) (cs := nts .u8 (ys.set i (ys.getD j 0))) rfl rfl rfl rfl Zfx rfl (by simp; omega) Zbi) ?_;refine go ?_;refine Za rfl (Zbv rfl Zfx rfl) ?_;refine Za rfl (Zk rfl rfl (show _ = (((x :: l).length - 1 : Nat) : Int) by rw [IntWalk.i64_in _ (by omega)]; omega)) ?_;refine Zr ?_;refine Za rfl (Zk rfl rfl (show _ = (j : Int) by rw [IntWalk.i64_in _ (by omega)]; omega)) ?_;refine Zr ?_;refine Za rfl (ZS rfl rfl rfl rfl Zfx (by omega) (by omega) (Zab rfl)) ?_;refine Zq rfl (Zad (pl := ⟨setK0⟩) (ob := ⟨nts .u8 (ys.set i (ys.getD j 0)), ZeZ, 1, true, none⟩) (cs := nts .u8 ((ys.set i (ys.getD j 0)).set j (ys.getD i 0))) rfl rfl rfl rfl Zfx rfl (by simp; omega) Zbi) ?_;refine gn ?_;refine Za rfl (Zf rfl rfl (Zi (by omega))) ?_;refine go ?_;refine ARun.ag (ih ((i + 1, (ys.set i (ys.getD j 0)).set j (ys.getD i 0))) ?_ ?_)
    · exact hinv.step hij hj
    (dsimp only; omega)
  have hy : ys = (x :: l).reverse := hinv.fin (by omega);subst hy;refine ARun.exit rfl ?_;refine gn ?_;refine Za rfl (ZlL (n := (x :: l).length) (l := (x :: l).reverse) rfl (by kernel_rfl) rfl rfl (srcD_row (o := ⟨nts .u8 (x :: l).reverse, ZeZ, 1, true, none⟩) Zfx) (by simp)) ?_;refine go ?_;refine Zno ?_;rfl
theorem ZcI : PC C 303 [.int .i64 0] (fun o => o = .ret (.tup [])) := by
  refine Znr Tryz.func303 Tryz.ntmps303 Tryz.results303 ?_;refine go ?_;refine Znx rfl ?_;refine ARun.skip ?_;refine ARun.nil ?_;refine ⟨_, _, _, .nil, .nil, rfl, ?_⟩;rfl
theorem Zln (a b : Nat) (ha : (lim a).length ≤ 1024) (hb : (lim b).length ≤ 1024) (h : (lim (a * b)).length ≤ 1024) : PC C 319 [numD a, numD b] (fun o => o = .ret (numD (a * b))) := by
  refine Znr Tryz.func319 Tryz.ntmps319 Tryz.results319 ?_;refine go ?_;refine Zc rfl rfl (nMul a b ha hb h) ?_;refine go ?_;refine Zc rfl rfl (ZcI) ?_;refine go ?_;refine Zno ?_;rfl
theorem ZlS (a b : Nat) (ha : (lim a).length ≤ 1024) (hb : (lim b).length ≤ 1024) (h : (lim (a + b)).length ≤ 1024) : PC C 304 [numD a, numD b] (fun o => o = .ret (numD (a + b))) := by
  refine Znr Tryz.func304 Tryz.ntmps304 Tryz.results304 ?_;refine go ?_;refine Zc rfl rfl (nAdd a b ha hb h) ?_;refine go ?_;refine Zc rfl rfl (ZcI) ?_;refine go ?_;refine Zno ?_;rfl
theorem Zh4 (a b : Nat) (ha : (lim a).length ≤ 1024) (h : b ≤ a) : PC C 305 [numD a, numD b] (fun o => o = .ret (numD (a - b))) := by
  refine Znr Tryz.func305 Tryz.ntmps305 Tryz.results305 ?_;refine go ?_;refine Zc rfl rfl (nSub a b ha h) ?_;refine go ?_;refine Zc rfl rfl (ZcI) ?_;refine go ?_;refine Zno ?_;rfl
theorem Zdi (a b : Nat) (ha : (lim a).length ≤ 1024) (hb : (lim b).length ≤ 1024) (h : 0 < b) : PC C 279 [numD a, numD b] (fun o => o = .ret (.tup [numD (a / b), numD (a % b)])) := by
  refine Znr Tryz.func279 Tryz.ntmps279 Tryz.results279 ?_;refine go ?_;refine Zc rfl rfl (nDiv a b ha hb h) ?_;refine go ?_;refine Zc rfl rfl (ZcI) ?_;refine go ?_;refine ZnA ?_;rfl
theorem Ze4 (a : Nat) (ha : (lim a).length ≤ 1024) : PC C 301 [numD a] (fun o => o = .ret (.int .i64 ((bl a : Nat) : Int))) := by
  refine Znr Tryz.func301 Tryz.ntmps301 Tryz.results301 ?_;refine go ?_;refine Zc rfl rfl (Zlm a ha) ?_;refine go ?_;refine Zc rfl rfl (ZcI) ?_;refine go ?_;refine Zno ?_;rfl
theorem Zh5 (a b : Nat) (ha : (lim a).length ≤ 1024) (hb : (lim b).length ≤ 1024) : PC C 330 [numD a, numD b] (fun o => o = .ret (.int .i64 (cmpI a b))) := by
  refine Znr Tryz.func330 Tryz.ntmps330 Tryz.results330 ?_;refine go ?_;refine Zc rfl rfl (nCmp a b ha hb) ?_;refine go ?_;refine Zc rfl rfl (ZcI) ?_;refine go ?_;refine Zno ?_;rfl
theorem halves_cmp {r d : Nat} (h : r ≤ d) : cmpI r (d - r) = cmpI (2 * r) d := by unfold cmpI; (repeat' split) <;> omega
theorem Ze5 (r d : Nat) (hd : (lim d).length ≤ 1024) (h : r ≤ d) : PC C 318 [numD r, numD d] (fun o => o = .ret (.int .i64 (cmpI (2 * r) d))) := by
  refine Znr Tryz.func318 Tryz.ntmps318 Tryz.results318 ?_;refine go ?_;refine Zc rfl rfl (Zh4 d r hd h) ?_;refine Zc rfl rfl (Zh5 r (d - r) (Nat.le_trans (Zn h) hd) (Nat.le_trans (Zn (Nat.sub_le d r)) hd)) ?_;refine go ?_;refine Zno ?_;rw [halves_cmp h]; try rfl
theorem ZgG : PC C 211 [.bool true] (fun o => o = .ret (.tup [])) := by
  refine Znr Tryz.func211 Tryz.ntmps211 Tryz.results211 ?_;refine go ?_;refine Znx rfl ?_;refine ARun.skip ?_;refine ARun.nil ?_;refine ⟨_, _, _, .nil, .nil, rfl, ?_⟩;rfl
theorem Zh6 : PC C 382 [.agg []] (fun o => o = .ret (.int .u32 10)) := by
  refine Znr Tryz.func382 Tryz.ntmps382 Tryz.results382 ?_;refine zzs ?_;refine Zq rfl (Zdu rfl rfl rfl) ?_;refine go ?_;refine Zno ?_;rfl
theorem Zei (n : Nat) (h : n ≤ 9799) : PC C 385 [.agg [], .int .i64 (n : Int)] (fun o => o = .ret (numD (10 ^ n))) := by
  refine Znr Tryz.func385 Tryz.ntmps385 Tryz.results385 ?_;refine zzs ?_;refine Zq rfl (Zdu rfl rfl rfl) ?_;refine gn ?_;refine Za rfl (Znq (Zd rfl rfl rfl rfl rfl rfl rfl rfl rfl rfl rfl (by decide) (by decide) rfl) ZeT) ?_;refine Zr ?_;refine Zc rfl rfl (nTen n h) ?_;refine go ?_;refine Zc rfl rfl (ZcI) ?_;refine go ?_;refine Zno ?_;rfl
theorem ZlT (n : Nat) (h : n ≤ 1000000000) : PC C 383 [.agg [], .int .i64 (n : Int)] (fun o => o = .ret (.int .i64 ((10 * n / 3 + 1 : Nat) : Int))) := by
  refine Znr Tryz.func383 Tryz.ntmps383 Tryz.results383 ?_;refine zzs ?_;refine Zq rfl (Zdu rfl rfl rfl) ?_;refine gn ?_;refine Za rfl (ZaC rfl rfl (ZaD (m := 10) (by omega))) ?_;refine Za rfl (ZaQ rfl rfl (by omega) (Zay (n := 3) rfl (by omega))) ?_;refine Za rfl (Zf rfl rfl (Zi (by omega))) ?_;refine go ?_;refine Zno ?_;rfl
def abt (n : Int) : Int := if n < 0 then -(-n * 1233 / 4096) else n * 1233 / 4096
theorem Zlo (n : Int) (h1 : -1000000000 ≤ n) (h2 : n ≤ 1000000000) : PC C 381 [.agg [], .int .i64 n] (fun o => o = .ret (.int .i64 (abt n))) := by
  refine Znr Tryz.func381 Tryz.ntmps381 Tryz.results381 ?_;refine zzs ?_;refine Zq rfl (Zdu rfl rfl rfl) ?_;refine go ?_;refine Znp rfl (fun h => ?_) (fun h => ?_)
  · skip
    refine gn ?_;refine Za rfl (Zg4 rfl (IntWalk.i64_in _ (by omega))) ?_;refine Za rfl (ZaC rfl rfl (IntWalk.i64_in _ (by omega))) ?_;refine Za rfl (ZaQ rfl rfl (by omega) (by rw [IntWalk.i64_quo _ _ (by omega)])) ?_;refine Za rfl (Zg4 rfl (IntWalk.i64_in _ (by omega))) ?_;refine go ?_;refine Zno ?_;unfold abt; rw [if_pos h, Int.zero_sub, Int.zero_sub]; try rfl
  refine gn ?_;refine Za rfl (ZaC rfl rfl (IntWalk.i64_in _ (by omega))) ?_;refine Za rfl (ZaQ rfl rfl (by omega) (IntWalk.i64_quo _ _ (by omega))) ?_;refine go ?_;refine Zno ?_;unfold abt; rw [if_neg h]; try rfl
theorem log_gen {n b k l : Nat} (hk : k ≠ 0) (h0 : n * k ≤ b * l) (h1 : 10 ^ l ≤ 2 ^ k) : 10 ^ n ≤ 2 ^ b := by
  have h2 : (10 ^ n) ^ k ≤ (2 ^ b) ^ k := by
    calc (10 ^ n) ^ k = 10 ^ (n * k) := (Nat.pow_mul ..).symm
      _ ≤ 10 ^ (b * l) := Nat.pow_le_pow_right (Nat.succ_pos 9) h0
      _ = (10 ^ l) ^ b := by rw [Nat.mul_comm b, Nat.pow_mul]
      _ ≤ (2 ^ k) ^ b := Nat.pow_le_pow_left h1 b
      _ = (2 ^ b) ^ k := by rw [← Nat.pow_mul, ← Nat.pow_mul, Nat.mul_comm]
  exact (Nat.pow_le_pow_iff_left hk).1 h2
theorem log_le (b : Nat) : 10 ^ (b * 1233 / 4096) ≤ 2 ^ b := by
  have h0 : b * 1233 / 4096 * 4096 ≤ b * 1233 := Nat.div_mul_le_self _ _;generalize b * 1233 / 4096 = n at h0
  have h1 : (10 : Nat) ^ 1233 ≤ 2 ^ 4096 := by decide +kernel
  exact log_gen (by omega) h0 h1
theorem log_dl {a : Nat} (h : 0 < a) : (bl a - 1) * 1233 / 4096 < dl a := by
  rw [Zgx];exact Nat.le_trans (log_le _) (ZfO.1 (by have := ZfO (n := a) (k := 0); omega))
theorem dl_fit {a n : Nat} (h : a < 10 ^ n) : dl a ≤ n := Zgw.2 h
theorem Ze6 (a : Nat) (ha : a < 10 ^ 9799) : PC C 386 [.agg [], numD a] (fun o => o = .ret (.int .i64 ((dl a : Nat) : Int))) := by
  have hl : (lim a).length ≤ 1024 := fit10 (Nat.lt_trans ha (@Nat.pow_lt_pow_right 10 9799 9800 (Nat.lt_of_sub_eq_succ rfl) (Nat.lt_succ_self _)));have hd : dl a ≤ 9799 := dl_fit ha;refine Znr Tryz.func386 Tryz.ntmps386 Tryz.results386 ?_;refine go ?_;refine zzb ?_;refine go ?_;refine Znp rfl (fun h => ?_) (fun h => ?_)
  · skip
    refine go ?_;refine Zno ?_
    have h0 : a = 0 := by
      rcases Nat.eq_zero_or_pos a with h0 | h0
      · exact h0
      have := ZB.2 (Nat.pos_iff_ne_zero.1 h0); omega
    subst h0; rw [Zem]; try rfl
  have h0 : 0 < a := by
    rcases Nat.eq_zero_or_pos a with h0 | h0
    · subst h0; rw [Za9] at h; omega
    exact h0
  have hb : 1 ≤ bl a := by have := ZfO (n := a) (k := 0); omega
  have hb2 : bl a ≤ 32768 := by have := Zbk a; omega
  have hlg := log_dl h0;refine go ?_;refine Zc rfl rfl (Ze4 a hl) ?_;refine Za rfl (Zk rfl rfl (ZY (by omega) (by omega))) ?_;refine Za rfl (ZaC rfl rfl (ZaD (n := 1233) (by omega))) ?_;refine Za rfl (ZaQ rfl rfl (by omega) (Zay (n := 4096) rfl (by omega))) ?_;refine go ?_;refine Znw (S := Nat) (fun n : Nat => [(4, .any), (6, .any), (7, .any), (16, .any), (17, .any), (18, .any), (19, .any), (20, .any), (21, .any), (22, .any), (23, .any), (24, .any), (25, .any), (26, .any), (27, .any), (28, .any), (29, .any), (30, .any), (31, .any), (32, .any), (5, .int .i64 (n : Int))]) (fun n : Nat => []) (fun n : Nat => n ≤ dl a) (fun n : Nat => dl a - n) ((bl a - 1) * 1233 / 4096) ?_ ?_
  · exact Nat.le_of_lt hlg
  rintro n hinv ih;refine gn ?_;refine Za rfl (Znq (Zd rfl rfl rfl rfl rfl rfl rfl rfl rfl rfl rfl (by decide) (by decide) rfl) ZeT) ?_;refine Zr ?_;refine Zc rfl rfl (nTen n (by omega)) ?_;refine go ?_;refine Zc rfl rfl (Zh5 a (10 ^ n) hl (fitT (by omega))) ?_;refine go ?_;refine Znp rfl (fun h1 => ?_) (fun h1 => ?_)
  · skip
    refine go ?_;refine Zno ?_
    have h2 : a < 10 ^ n := by
      unfold cmpI at h1
      split at h1
      · assumption
      split at h1 <;> omega
    rw [Nat.le_antisymm hinv (Zgw.2 h2)]; try rfl
  have h2 : 10 ^ n ≤ a := by
    rcases Nat.lt_or_ge a (10 ^ n) with h2 | h2
    · exfalso; apply h1; unfold cmpI; rw [if_pos h2]; decide
    exact h2
  have h3 := Zgx.2 h2;refine gn ?_;refine Za rfl (Zf rfl rfl (Zi (by omega))) ?_;refine go ?_;refine ARun.ag (ih ((n + 1)) ?_ ?_)
  · exact h3
  omega
abbrev fmtC (f : Int) : List D := [.iface Zba (.agg []), .int .i64 (fP f : Nat), .int .i64 (fLo f), .int .i64 (fHi f)]
abbrev binC (p l h : Int) : List D := [.iface ZiN (.agg []), .int .i64 p, .int .i64 l, .int .i64 h]
def fmtsC : List D := binC 11 (-24) 5 ++ (binC 24 (-149) 104 ++ (binC 53 (-1074) 971 ++ (binC 64 (-16445) 16320 ++ (binC 113 (-16494) 16271 ++ (fmtC 6 ++ (fmtC 7 ++ fmtC 8))))))
theorem ZjP : PC C 271 [] (fun o => o = .ret (.sl 8 fmtsC)) := by
  refine Znr Tryz.func271 Tryz.ntmps271 Tryz.results271 ?_;refine gn ?_;refine Za rfl (ZH rfl rfl rfl) ?_;refine gn ?_;refine Za rfl (ZH rfl rfl rfl) ?_;refine gn ?_;refine Za rfl (ZH rfl rfl rfl) ?_;refine gn ?_;refine Za rfl (ZH rfl rfl rfl) ?_;refine gn ?_;refine Za rfl (ZH rfl rfl rfl) ?_;refine gn ?_;refine Za rfl (ZH rfl rfl rfl) ?_;refine gn ?_;refine Za rfl (ZH rfl rfl rfl) ?_;refine gn ?_;refine Za rfl (ZH rfl rfl rfl) ?_;refine zzB ?_;refine Za rfl (Zd rfl rfl rfl rfl rfl rfl rfl rfl rfl rfl rfl (by decide) (by decide) rfl) ?_;refine go ?_;refine Zno ?_;rfl
def isF (f : Int) : Prop := f = 6 ∨ f = 7 ∨ f = 8
theorem fmts_drop {f : Int} (h : isF f) : (fmtsC.drop ((f - 1).toNat * 4)).take 4 = fmtC f := by
  rcases h with rfl | rfl | rfl <;> rfl
theorem ZfA (f : Int) (h : isF f) : PC C 212 [.int .i64 f] (fun o => o = .ret (.agg (fmtC f))) := by
  have hf : 6 ≤ f ∧ f ≤ 8 := by unfold isF at h; omega
  have e : (decide (f ≥ 1) && decide (f ≤ 8)) = true := by simp; omega
  refine Znr Tryz.func212 Tryz.ntmps212 Tryz.results212 ?_;refine zzs ?_; refine zzA ?_; refine zzt ?_; refine Zr ?_; refine zzi ?_; refine Zr ?_;apply Znu 5 (fun sj1 => [(5, .any), (6, .any), (7, .any), (8, .bool sj1)]) rfl
  · intro hj1 run1
    try replace hj1 := Zh hj1
    refine Zr ?_; refine zzi ?_; refine ZK ?_;exact AOps.ag run1
  · intro hj1 run1
    try replace hj1 := Zj hj1
    refine Zg ?_; refine Zg ?_; refine ZK ?_;exact AOps.ag run1
  refine Zc rfl rfl ((by rw [show decide (f ≥ 1) = true from decide_eq_true (by omega), show decide (f ≤ 8) = true from decide_eq_true (by omega)]; exact ZgG)) ?_;refine go ?_;refine Zc rfl rfl (ZjP) ?_;refine Zr ?_;refine Za rfl (Zk rfl rfl (IntWalk.i64_in _ (by omega))) ?_;refine Za rfl (Zm rfl rfl rfl rfl (by omega) (by omega) (by unfold fmtsC; simp) rfl) ?_;refine Za rfl (Ze (ds := fmtC f) rfl rfl rfl (fmts_drop h) rfl) ?_;refine go ?_;refine Zns ?_;rfl
def dirF (dir : Int) : FuncId := if dir = 1 then 272 else if dir = 2 then 273 else if dir = 3 then 274 else if dir = 4 then 275 else 276
def isDir (dir : Int) : Prop := 1 ≤ dir ∧ dir ≤ 5
theorem isDir.cases {dir : Int} (h : isDir dir) : dir = 1 ∨ dir = 2 ∨ dir = 3 ∨ dir = 4 ∨ dir = 5 := by unfold isDir at h; omega
abbrev dirM : List (D × D) := [(.int .i64 1, .clos 272 []), (.int .i64 2, .clos 273 []), (.int .i64 3, .clos 274 []), (.int .i64 4, .clos 275 []), (.int .i64 5, .clos 276 [])]
theorem find_dir {dir : Int} (h : isDir dir) : ZeR .i64 dir dirM = some (some (.clos (dirF dir) [])) := by
  rcases h.cases with rfl | rfl | rfl | rfl | rfl <;> rfl
theorem Ziq (dir : Int) (h : isDir dir) : PC C 213 [.int .i64 dir] (fun o => o = .ret (.clos (dirF dir) [])) := by
  refine Znr Tryz.func213 Tryz.ntmps213 Tryz.results213 ?_;refine zzs ?_; refine zza ?_; refine zzt ?_;refine Zq rfl (ZeI (kt := 3) (et := Za3) (by kernel_rfl) (.inl rfl)) ?_;refine Zq rfl (Zaq (kt := 3) (et := Za3) (.inl rfl) (by kernel_rfl) (by kernel_rfl) rfl rfl rfl rfl rfl) ?_;refine Zq rfl (Zaq (kt := 3) (et := Za3) (.inl rfl) (by kernel_rfl) (by kernel_rfl) rfl rfl rfl rfl rfl) ?_;refine Zq rfl (Zaq (kt := 3) (et := Za3) (.inl rfl) (by kernel_rfl) (by kernel_rfl) rfl rfl rfl rfl rfl) ?_;refine Zq rfl (Zaq (kt := 3) (et := Za3) (.inl rfl) (by kernel_rfl) (by kernel_rfl) rfl rfl rfl rfl rfl) ?_;refine Zq rfl (Zaq (kt := 3) (et := Za3) (.inl rfl) (by kernel_rfl) (by kernel_rfl) rfl rfl rfl rfl rfl) ?_;refine gn ?_;refine Za rfl (ZmQ (kt := 3) (et := Za3) (by kernel_rfl) (by kernel_rfl) rfl rfl rfl rfl rfl (find_dir h)) ?_;refine go ?_;refine Zc rfl rfl (ZgG) ?_;refine go ?_;refine Zno ?_;rfl
theorem ZmU (neg odd : Bool) (half : Int) : PC C 272 [.bool neg, .bool odd, .int .i64 half] (fun o => o = .ret (.bool (dirB 1 neg odd half))) := by
  refine Znr Tryz.func272 Tryz.ntmps272 Tryz.results272 ?_;refine zzs ?_; refine zza ?_; refine zzt ?_; refine Zr ?_; refine zzi ?_; refine Zr ?_;apply ZnB 9 (fun sj1 => [(9, .any), (10, .any), (11, .any), (12, .any), (13, .any), (14, .any), (15, .bool sj1)]) rfl
  · intro hj1 run1
    try replace hj1 := Zh hj1
    refine Zg ?_; refine Zg ?_; refine Zg ?_; refine Zg ?_; refine Zg ?_; refine ZK ?_;exact AOps.ag run1
  · intro hj1 run1
    try replace hj1 := Zj hj1
    refine Zr ?_; refine zzi ?_; refine Zr ?_;apply Znu 12 (fun sj2 => [(12, .any), (13, .any), (14, .bool sj2)]) rfl
    · intro hj2 run2
      try replace hj2 := Zh hj2
      refine Zr ?_; refine ZK ?_;exact AOps.ag run2
    · intro hj2 run2
      try replace hj2 := Zj hj2
      refine Zg ?_; refine ZK ?_;exact AOps.ag run2
    refine ZK ?_;exact AOps.ag run1
  refine go ?_;refine Zno ?_;rfl
theorem ZmV (neg odd : Bool) (half : Int) : PC C 273 [.bool neg, .bool odd, .int .i64 half] (fun o => o = .ret (.bool (dirB 2 neg odd half))) := by
  refine Znr Tryz.func273 Tryz.ntmps273 Tryz.results273 ?_;refine go ?_;refine Zno ?_;rfl
theorem ZmW (neg odd : Bool) (half : Int) : PC C 274 [.bool neg, .bool odd, .int .i64 half] (fun o => o = .ret (.bool (dirB 3 neg odd half))) := by
  refine Znr Tryz.func274 Tryz.ntmps274 Tryz.results274 ?_;refine go ?_;refine Zno ?_;rfl
theorem ZmX (neg odd : Bool) (half : Int) : PC C 275 [.bool neg, .bool odd, .int .i64 half] (fun o => o = .ret (.bool (dirB 4 neg odd half))) := by
  refine Znr Tryz.func275 Tryz.ntmps275 Tryz.results275 ?_;refine go ?_;refine Zno ?_;rfl
theorem ZmY (neg odd : Bool) (half : Int) : PC C 276 [.bool neg, .bool odd, .int .i64 half] (fun o => o = .ret (.bool (dirB 5 neg odd half))) := by
  refine Znr Tryz.func276 Tryz.ntmps276 Tryz.results276 ?_;refine go ?_;refine Zno ?_;rfl
theorem ZhE {dir : Int} (h : isDir dir) (neg odd : Bool) (half : Int) : PC C (dirF dir) [.bool neg, .bool odd, .int .i64 half] (fun o => o = .ret (.bool (dirB dir neg odd half))) := by
  rcases h.cases with rfl | rfl | rfl | rfl | rfl
  · exact ZmU neg odd half
  · exact ZmV neg odd half
  · exact ZmW neg odd half
  · exact ZmX neg odd half
  exact ZmY neg odd half
abbrev dtC (d : Dt) : List D := [.int .i64 d.fmt, .int .i64 d.cls, .bool d.neg, sln .u32 d.coef, .int .i64 d.exp]
abbrev dtD (d : Dt) : D := .agg (dtC d)
abbrev rsD (r : Rs) : D := .agg [.int .i64 r.dt.fmt, .int .i64 r.dt.cls, .bool r.dt.neg, sln .u32 r.dt.coef, .int .i64 r.dt.exp, .int .i64 r.fl]
theorem fz_dt {H : Heap} (f c : Int) (neg : Bool) (e : Int) : Fz H (.agg [.int .i64 f, .int .i64 c, .bool neg, .nilsl, .int .i64 e]) (dtD ⟨f, c, neg, [], e⟩) [] := .agg (.cons (.same _) (.cons (.same _) (.cons (.same _) (.cons .nil (.cons (.same _) .nil)))))
theorem ZfY {H : Heap} (f c : Int) (neg : Bool) (e fl : Int) : Fz H (.agg [.int .i64 f, .int .i64 c, .bool neg, .nilsl, .int .i64 e, .int .i64 fl]) (rsD ⟨⟨f, c, neg, [], e⟩, fl⟩) [] := .agg (.cons (.same _) (.cons (.same _) (.cons (.same _) (.cons .nil (.cons (.same _) (.cons (.same _) .nil))))))
theorem ZdL (f : Int) (neg : Bool) (xs : List Nat) (q : Int) : PC C 277 [.int .i64 f, .bool neg, sln .u32 xs, .int .i64 q] (fun o => o = .ret (dtD ⟨f, 1, neg, xs, q⟩)) := by
  refine Znr Tryz.func277 Tryz.ntmps277 Tryz.results277 ?_;refine go ?_;refine Zns ?_;rfl
theorem ZjQ (f : Int) (neg : Bool) (q : Int) : PC C 277 [.int .i64 f, .bool neg, .nilsl, .int .i64 q] (fun o => o = .ret (dtD ⟨f, 1, neg, [], q⟩)) := by
  refine Znr Tryz.func277 Tryz.ntmps277 Tryz.results277 ?_;refine go ?_;refine ARun.ret ?_;refine ⟨_, _, _, Znt rfl rfl rfl rfl rfl rfl .nil, .cons (fz_dt f 1 neg q) .nil, rfl, ?_⟩;rfl
theorem Zi4 (neg : Bool) (f dir : Int) (hf : isF f) (hd : isDir dir) : PC C 281 [.bool neg, .int .i64 f, .clos (dirF dir) []] (fun o => o = .ret (rsD (ovf f neg dir))) := by
  have hp := ZW f;have hl : 1 ≤ 10 ^ fP f := Nat.pow_pos (by omega);refine Znr Tryz.func281 Tryz.ntmps281 Tryz.results281 ?_;refine go ?_;refine Zc rfl rfl (ZfA f hf) ?_;refine go ?_;refine Zc rfl rfl (ZhE hd neg true 1) ?_;refine AOps.nil ?_;refine ARun.cond rfl (fun h => ?_) (fun h => ?_)
  · skip
    refine go ?_;refine ARun.ret ?_;refine ⟨_, _, _, Znt rfl rfl rfl rfl rfl rfl .nil, .cons (ZfY f 2 neg 0 20) .nil, rfl, ?_⟩;unfold ovf; rw [if_pos h]; rfl
  refine go ?_;refine zdr 14 mixC ?_;refine zdm ?_;refine zdm ?_;refine .op rfl (ZZ rfl rfl rfl (by decide)) ?_;refine .op rfl (ZC rfl rfl rfl rfl rfl) ?_;refine .op rfl (ZZ rfl rfl rfl (by decide)) ?_;refine .op rfl (ZC rfl rfl rfl rfl rfl) ?_;refine .op rfl (ZbJ rfl rfl ZiI (Zei (fP f) (by omega))) ?_;refine .op rfl (Znq (Zd rfl rfl rfl rfl rfl rfl rfl rfl rfl rfl rfl (by decide) (by decide) rfl) ZO) ?_;refine .op rfl (Zb rfl rfl (Zh4 (10 ^ fP f) 1 (fitT (by omega)) hl)) ?_;refine .op rfl (ZZ rfl rfl rfl (by decide)) ?_;refine .op rfl (ZC rfl rfl rfl rfl rfl) ?_;refine .op rfl (Zb rfl rfl (ZdL f neg (lim (10 ^ fP f - 1)) (fHi f))) ?_;refine zdm ?_;refine .op rfl (Zal rfl rfl rfl rfl rfl) ?_;refine .nil (fun hG => ?_);refine go ?_;refine Zns ?_;unfold ovf; rw [if_neg (by rw [h]; decide)]; try rfl
theorem ZlU (neg : Bool) (f prefer : Int) (hf : isF f) : PC C 214 [.bool neg, .int .i64 f, .int .i64 prefer] (fun o => o = .ret (rsD (zro f neg prefer))) := by
  refine Znr Tryz.func214 Tryz.ntmps214 Tryz.results214 ?_;refine go ?_;refine Zc rfl rfl (ZfA f hf) ?_;refine gn ?_;refine Za rfl (ZbJ rfl rfl m_digit (Zh6)) ?_;refine go ?_;refine Znz rfl ?_;refine gn ?_;refine Za rfl (Zif rfl rfl) ?_;refine gn ?_;refine Za rfl (Zgt rfl rfl) ?_;refine go ?_;refine Zc rfl rfl (ZjQ f neg (min (max prefer (fLo f)) (fHi f))) ?_;refine go ?_;refine Zns ?_;unfold zro finD; rw [ZA]; try rfl
end Go.V
