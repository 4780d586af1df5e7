/- A part of the proof: abstract values, rules for the steps of the program's form, and contracts of its functions, each proved; no condition. -/
import Derived.Test.YtjohcjagbodicaaGreatDoorA13
set_option linter.unusedVariables false
set_option linter.unusedSimpArgs false
/- CONTRACTS WHOSE RESULT IS A ROW that may still be written; calls that write, or that make rows, with arguments that are handed on. -/
namespace Go.V
open Go.RowKit Go.Proofs
theorem HC.of_live {C : Ctx} {f : FuncId} {args : List D} {n : Nat} {o : AObj} (h : HC C f [] args (fun x H' => ∃ k, x = .ret (.row k n) ∧ H'[k]? = some (some o))) (ho : o.live = true) (hsp : o.sp = none) (hp : D.pure.pures args = true) (hc : D.pure.pures o.cells = true) (H : Heap) :
    HC C f H args (fun x H' => x = .ret (.row H.length n) ∧ H' = H ++ [some o]) := by
  refine ⟨h.1, fun L0 w μ vs hs ha => ?_⟩
  have hf : ∀ b, forb (forb L0 μ H) [] [] b ↔ forb L0 μ H b := fun b => ⟨fun h => h.elim id (fun ⟨i, o, h1, _⟩ => by simp at h1), .inl⟩
  have s0 : SR C (forb L0 μ H) w [] [] := by
    refine ⟨rfl, fun i o b h => by simp at h, fun i j oi oj b h => by simp at h, fun i o b h => by simp at h, fun b hb => hs.forb_lt hb, fun g cs hg => ?_⟩
    obtain ⟨h1, h2, h3⟩ := hs.glob g cs hg
    exact ⟨h1, fun h => h2 ((hf g).1 h), VRL.step (Step.shrink fun b hb => (hf b).1 hb) h1 h2 h3⟩
  have a0 : VRs w (forb (forb L0 μ H) [] []) [] [] args vs := VRs.step (Step.shrink fun b hb => (hf b).1 hb) (VRs.drop hp ha)
  refine (h.2 _ w [] vs s0 a0).mono fun e w' hfin => ?_
  obtain ⟨x, H1, μ1, ⟨k, rfl, hk⟩, s1, hO, e1⟩ := hfin
  have hun : ∀ b, b < w.heap.size → w'.heap[b]? = w.heap[b]? := fun b hb => e1.chg b hb (fun ⟨i, o, h1, _⟩ => by simp at h1)
  obtain ⟨v, rfl, hv⟩ := hO
  simp only [VR] at hv
  obtain ⟨x, hx, hxo⟩ := hv
  rw [hk] at hx
  injection hx with hx
  subst hx
  obtain ⟨b, cap, cur, hb, hv, hnc, hcm, hw, hsz, hcl⟩ := hxo _ rfl
  have hlb : liveB μ1 H1 b := ⟨k, _, hk, ho, hb⟩
  have hbn : w.heap.size ≤ b := Nat.le_of_not_lt fun hlt => by
    obtain ⟨i, o, h1, _⟩ := e1.live b hlt hlb
    simp at h1
  have hml : μ.length = H.length := hs.len
  have hcase : ∀ (i : Nat) (oi : AObj) (c : Nat), (H ++ [some o])[i]? = some (some oi) → (μ ++ [b])[i]? = some c → (i < H.length ∧ H[i]? = some (some oi) ∧ μ[i]? = some c) ∨ (i = H.length ∧ oi = o ∧ c = b) := by
    intro i oi c h1 h2
    rcases Nat.lt_trichotomy i H.length with h3 | h3 | h3
    · rw [List.getElem?_append_left h3] at h1
      rw [List.getElem?_append_left (by omega)] at h2
      exact .inl ⟨h3, h1, h2⟩
    · subst h3
      simp at h1
      rw [← hml] at h2
      simp at h2
      exact .inr ⟨rfl, h1.symm, h2.symm⟩
    · rw [List.getElem?_eq_none (by simp; omega)] at h1; cases h1
  have hlive : ∀ c, liveB (μ ++ [b]) (H ++ [some o]) c → liveB μ H c ∨ c = b := by
    rintro c ⟨i, oi, h1, h2, h3⟩
    rcases hcase i oi c h1 h3 with ⟨_, k1, k2⟩ | ⟨_, _, k3⟩
    · exact .inl ⟨i, oi, k1, h2, k2⟩
    · exact .inr k3
  have evo : Evo w w' μ (μ ++ [b]) H (H ++ [some o]) := by
    refine ⟨e1.os, e1.tape, e1.output, e1.size, fun b hb _ => hun b hb, fun c hc hl => ?_, fun i c hi => ?_, fun i x hx => ?_⟩
    · rcases hlive c hl with h | rfl
      · exact h
      · omega
    · have := (List.getElem?_eq_some_iff.1 hi).1
      rw [List.getElem?_append_left this]; exact hi
    · have := (List.getElem?_eq_some_iff.1 hx).1
      refine ⟨x, by rw [List.getElem?_append_left this]; exact hx, fun o' e => ⟨o', e, rfl, rfl, rfl, fun b cur hb hw => ⟨cur, ?_, rfl⟩⟩⟩
      rw [hun b (Array.getElem?_eq_some_iff.1 hw).1]; exact hw
  have st := evo.step L0
  have hsub : ∀ c, forb L0 (μ ++ [b]) (H ++ [some o]) c → forb (forb L0 μ H) μ1 H1 c := by
    rintro c (hc | hc)
    · exact .inl (.inl hc)
    · rcases hlive c hc with h | rfl
      · exact .inl (.inr h)
      · exact .inr hlb
  have sr : SR C L0 w' (μ ++ [b]) (H ++ [some o]) := by
    refine ⟨by simp [hml], fun i oi c h1 h2 => ?_, fun i j oi oj c h1 h2 h3 h4 hl => ?_, fun i oi c h1 h2 => ?_, fun c hc => Nat.lt_of_lt_of_le (hs.lim c hc) e1.size, fun g cs hg => ?_⟩
    · rcases hcase i oi c h1 h2 with ⟨_, k1, k2⟩ | ⟨_, rfl, rfl⟩
      · exact ((hs.obj i oi c k1 k2).same (hun c (hs.block_lt k1 k2))).step st
      · exact ((s1.obj k _ _ hk hb).step (Step.sub hsub)).move hsp hc
    · rcases hcase i oi c h1 h3 with ⟨_, k1, k2⟩ | ⟨k0, _, k3⟩ <;> rcases hcase j oj c h2 h4 with ⟨_, m1, m2⟩ | ⟨m0, _, m3⟩
      · exact hs.inj i j oi oj c k1 m1 k2 m2 hl
      · have := hs.block_lt k1 k2; omega
      · have := hs.block_lt m1 m2; omega
      · omega
    · rcases hcase i oi c h1 h2 with ⟨_, k1, k2⟩ | ⟨_, _, rfl⟩
      · exact hs.own i oi c k1 k2
      · intro h; have := hs.lim _ h; omega
    · obtain ⟨h1, h2, h3⟩ := hs.glob g cs hg
      exact ⟨Nat.lt_of_lt_of_le h1 e1.size, st.keep g h1 h2, VRL.step st.pure h1 h2 h3⟩
  refine ⟨.ret (.row H.length n), H ++ [some o], μ ++ [b], ⟨rfl, rfl⟩, sr, ⟨v, rfl, ?_⟩, evo⟩
  simp only [VR]
  refine ⟨some o, by simp, fun o' e => ?_⟩
  injection e with e
  subst e
  exact ⟨b, cap, cur, by rw [← hml]; simp, hv, hnc, hcm, hw, hsz, hcl⟩
theorem PC.of_live {C : Ctx} {f : FuncId} {args : List D} {n : Nat} {o : AObj} (h : HC C f [] args (fun x H' => ∃ k, x = .ret (.row k n) ∧ H'[k]? = some (some o))) (hp : D.pure.pures args = true) (hc : D.pure.pures o.cells = true) :
    PC C f args (fun x => x = .ret (.sl n o.cells)) := by
  refine PC.of_nil ⟨h.1, fun L0 w μ vs hs ha => (h.2 L0 w μ vs hs ha).mono fun e w' hfin => ?_⟩ hp
  obtain ⟨x, H1, μ1, ⟨k, rfl, hk⟩, s1, ⟨v, rfl, hv⟩, e1⟩ := hfin
  exact Fin.freeze (mk := .ret) (fun _ _ _ h => ⟨v, rfl, h⟩) s1 hv (.row hk hc) ⟨rfl, rfl⟩ e1
section
variable {C : Ctx} {Q : Post} {ops : Array Oper} {rest : List Oper} {k : List Item} {env env' : List D} {H H' : Heap} {df : List ADef}
variable {dst : Option Tmp} {op : Op} {ty : TypeId} {pos : String} {aft : Array Edge} {gd : Option (Nat × Bool)} {x y : Operand} {T e : TypeId} {tee : TE}
theorem n_live {f : FuncId} {caps ds ds' : List D} {ids : List Nat} {args : List Operand} {tys : Array TypeId} {n i : Nat} {o : AObj} {H1 : Heap} (hx : evO C env x = some (.clos f caps)) (ha : evOs C env args = some ds) (hz : FzL H (ds ++ caps) ds' ids) (hc : ∀ H, HC C f H ds' (fun x H' => x = .ret (.row H.length n) ∧ H' = H ++ [some o])) (hH : frz H ids = H1) [ap : AppL H1 (some o) i H'] :
    OpN C ⟨dst, .call ⟨.value x, args.toArray, tys⟩, ty, pos, aft, gd⟩ env H (.row i n) H' := by
  subst hH
  exact OpH.mono (fun d' H' ⟨q1, q2⟩ => by injection q1 with q1; subst q1; subst q2; exact ⟨by rw [ap.len], ap.eq⟩) (fun _ _ ⟨q, _⟩ => by cases q) (o_call hx ha hz (hc _))
theorem Zok {J : Heap} {n S b : Nat} {zv : Value} {dz dx : D} {zs cs : List D} {E : Heap → List D} (hg : gOk ops.toList env gd = some true) (ht : C.ty T = some ⟨.slice e, S, b, zv⟩) (hee : C.ty e = some tee) (h1 : tee.size = 1) (hz : constD tee.zero = some dz) (hzs : cellsD dz = some zs) (hzl : zs.length = 1)
    (hx : evO C env x = some (.row J.length n)) (hn : cs.length = n) (hy : evO C env y = some (.row (J ++ [some (AObj.mk cs e 1 true none)]).length 1)) (hH : H = (J ++ [some (AObj.mk cs e 1 true none)]) ++ [some (AObj.mk [dx] e 1 true none)]) (hb : (n + 1) * tee.bytes ≤ 140737488355328) (hm : n + 1 ≤ maxLen)
    [hp : ∀ J' : Heap, Put env dst (.row J'.length (n + 1)) (E J')] (hk : ∀ J' : Heap, AOps C Q ops rest k (E J') (J' ++ [some (AObj.mk (cs ++ [dx]) e 1 true none)]) df) :
    AOps C Q ops (⟨dst, .call ⟨.builtin .append, #[x, y], #[T, T]⟩, ty, pos, aft, gd⟩ :: rest) k env H df := by
  subst hH; subst hn
  have ho : ((J ++ [some (AObj.mk cs e 1 true none)]) ++ [some (AObj.mk [dx] e 1 true none)])[J.length]? = some (some (AObj.mk cs e 1 true none)) := by
    rw [List.getElem?_append_left (by simp), List.getElem?_append_right (Nat.le_refl _)]; simp
  have hs : srcD ((J ++ [some (AObj.mk cs e 1 true none)]) ++ [some (AObj.mk [dx] e 1 true none)]) (.row (J ++ [some (AObj.mk cs e 1 true none)]).length 1) = some (1, [dx]) := by
    simp only [srcD]
    rw [List.getElem?_append_right (Nat.le_refl _)]; simp
  have h := Zb6 (m := 1) (news := [dx]) (C := C) (env := env) (dst := dst) (ty := ty) (pos := pos) (aft := aft) (gd := gd) (x := x) (y := y) (T := T) (e := e) (tee := tee) ht hee (by rw [h1]; decide) hz hzs (by rw [h1]; exact hzl) hx ho rfl rfl (by rw [h1]) hy hs (by rw [h1]; rfl) (by simpa using hb) (by simpa using hm) rfl
  rw [h1] at h
  exact AOps.opH hg h (fun d H' ⟨q1, q2⟩ => by subst q1; subst q2; rw [(hp _).eq]; exact hk _) (fun _ _ h => h.elim)
end
end Go.V
/- THE SPECIFICATION's SHIFTS and DIVISION: plain Lean. -/
namespace Go.V
theorem shlA_step {a q r i c : Nat} {ys : List Nat} (hu : U32 ys) (hl : ys.length = q + i) (hr : r < 32) (hc : c < 2 ^ r) (hv : val ys + B ^ (q + i) * c = a % B ^ i * 2 ^ r * B ^ q) :
    U32 (ys ++ [(dig a i * 2 ^ r + c) % 4294967296]) ∧ (ys ++ [(dig a i * 2 ^ r + c) % 4294967296]).length = q + (i + 1) ∧ (dig a i * 2 ^ r + c) / 4294967296 < 2 ^ r ∧
      val (ys ++ [(dig a i * 2 ^ r + c) % 4294967296]) + B ^ (q + (i + 1)) * ((dig a i * 2 ^ r + c) / 4294967296) = a % B ^ (i + 1) * 2 ^ r * B ^ q := by
  have hsum : dig a i * 2 ^ r + c = c + dig a i * 2 ^ r := Nat.add_comm _ _
  refine ⟨hu.snoc (Nat.mod_lt _ (by decide)), by simp [hl]; omega, by rw [hsum]; exact shl_carry (dig_lt a i) hc, ?_⟩
  rw [val_append, hl, mod_succ, ← Nat.add_assoc q i 1, Nat.pow_succ, Nat.mul_assoc]
  generalize hs : dig a i * 2 ^ r + c = s
  have h1 : B ^ (q + i) * (s % 4294967296) + B ^ (q + i) * (B * (s / 4294967296)) = B ^ (q + i) * s := by
    rw [← Nat.mul_add]; congr 1; exact Nat.mod_add_div s B
  have h2 : B ^ (q + i) * s = B ^ (q + i) * (dig a i * 2 ^ r) + B ^ (q + i) * c := by rw [← hs, Nat.mul_add]
  have h3 : (a % B ^ i + B ^ i * dig a i) * 2 ^ r * B ^ q = a % B ^ i * 2 ^ r * B ^ q + B ^ (q + i) * (dig a i * 2 ^ r) := by
    rw [Nat.add_mul, Nat.add_mul, Nat.pow_add]
    congr 1
    rw [Nat.mul_comm (B ^ q) (B ^ i), Nat.mul_assoc (B ^ i), Nat.mul_assoc (B ^ i), Nat.mul_assoc (B ^ i)]
    congr 1
    exact Nat.mul_comm _ _
  simp only [val, Nat.mul_zero, Nat.add_zero]
  rw [h3]
  omega
theorem shlA_end {a q r c : Nat} {ys : List Nat} (hu : U32 ys) (hl : ys.length = q + (lim a).length) (hc : c < 2 ^ r) (hr : r < 32) (hv : val ys + B ^ (q + (lim a).length) * c = a % B ^ (lim a).length * 2 ^ r * B ^ q) :
    U32 (ys ++ [c % 4294967296]) ∧ val (ys ++ [c % 4294967296]) = a * 2 ^ (32 * q + r) := by
  have h1 : 2 ^ r ≤ 2 ^ 31 := Nat.pow_le_pow_right (by decide) (by omega)
  have h2 : c % 4294967296 = c := Nat.mod_eq_of_lt (by have : (2 : Nat) ^ 31 = 2147483648 := rfl; omega)
  refine ⟨hu.snoc (Nat.mod_lt _ (by decide)), ?_⟩
  rw [val_append, hl, h2]
  simp only [val, Nat.mul_zero, Nat.add_zero]
  rw [hv, mod_of_ln (Nat.le_refl _), Nat.pow_add, ← B_pow, Nat.mul_assoc, Nat.mul_comm (2 ^ r)]
theorem shrA_step {a n i : Nat} {ys : List Nat} (hu : U32 ys) (hl : ys.length = i) (hv : val ys = a / 2 ^ n % B ^ i) :
    U32 (ys ++ [dig (a / 2 ^ n) i]) ∧ (ys ++ [dig (a / 2 ^ n) i]).length = i + 1 ∧ val (ys ++ [dig (a / 2 ^ n) i]) = a / 2 ^ n % B ^ (i + 1) := by
  refine ⟨hu.snoc (dig_lt _ _), by simp [hl], ?_⟩
  rw [val_append, hl, mod_succ, hv]
  simp [val]
theorem shrA_dig (a n i : Nat) : (dig a (n / 32 + i + 1) * 2 ^ 32 + dig a (n / 32 + i)) / 2 ^ (n % 32) % 4294967296 = dig (a / 2 ^ n) i := by
  have h := shr_digit (m := a / B ^ (n / 32)) (r := n % 32) (i := i) (Nat.mod_lt _ (by decide))
  rw [← dig_add, ← dig_add, ← div_split] at h
  rw [← h, Nat.add_comm (dig a (n / 32 + i + 1) * 2 ^ 32), show n / 32 + i = i + n / 32 by omega, show i + n / 32 + 1 = i + 1 + n / 32 by omega]
theorem dv_back {d W h c P v y : Nat} (h1 : v + h * d = W + P * 1) (hv : v < P) (h2 : y + P * c = v + d) (hc : c ≤ 1) (hd0 : 0 < d) : 1 ≤ h ∧ W / d ≤ h - 1 ∧ y + (h - 1) * d = W + P * (1 - c) := by
  have h3 : W < h * d := by omega
  have h4 : W / d < h := (Nat.div_lt_iff_lt_mul hd0).2 h3
  obtain ⟨g, rfl⟩ : ∃ g, h = g + 1 := ⟨h - 1, by have := Nat.lt_of_le_of_lt (Nat.zero_le _) h4; omega⟩
  rw [Nat.add_mul, Nat.one_mul] at h1
  refine ⟨by omega, by rw [Nat.add_sub_cancel]; exact Nat.le_of_lt_succ h4, ?_⟩
  rw [Nat.add_sub_cancel]
  clear h4
  have hc2 : c = 0 ∨ c = 1 := by omega
  rcases hc2 with rfl | rfl
  · rw [Nat.mul_zero] at h2; rw [Nat.sub_zero]; omega
  · rw [Nat.mul_one] at h2; rw [Nat.sub_self, Nat.mul_zero]; omega
end Go.V
set_option maxHeartbeats 2000000
set_option synthInstance.maxSize 100000
set_option synthInstance.maxHeartbeats 2000000
namespace Go.V
open Go.RowKit Go.Proofs
abbrev rowU (xs : List Nat) : AObj := ⟨nts .u32 xs, Zah, 1, true, none⟩
theorem Zol (xs : List Nat) (hx : U32 xs) (hl : xs.length ≤ 35184372088832) : HC C Zcd [] [sln .u32 xs] (fun x H' => ∃ k, x = .ret (.row k (lim (val xs)).length) ∧ H'[k]? = some (some (rowU (lim (val xs))))) := by
  refine HC.run ZdN Zhg rfl Zhh (rs := [.tmp 2]) (by rw [Zhi]) (by simp only [List.length_cons, List.length_nil, Nat.reduceAdd, Nat.reduceSub, List.replicate_succ, List.replicate_zero, List.cons_append, List.nil_append]; exact rfl) ?_
  refine ARun.seq (ARun.region ?_)
  refine y_op rfl (Zaa rfl) ?_
  refine AOps.nil (ARun.seq (ARun.region ?_))
  refine y_op rfl (q_move rfl) ?_
  refine y_op rfl (Zad rfl rfl) ?_
  refine y_op rfl (Zaa rfl) ?_
  refine AOps.nil (ARun.seq (ARun.block ?_))
  refine ARun.loopI (S := Nat) (fun n : Nat => [(6, .any), (7, .any), (8, .any), (9, .any), (10, .any), (11, .any), (12, .any), (13, .any), (14, .any), (15, .any), (16, .any), (17, .any), (3, .int .i64 (n : Int))]) (fun n : Nat => []) (fun n : Nat => n ≤ xs.length ∧ val (xs.take n) = val xs) (fun n : Nat => n) (xs.length) ?_ ?_ ?_ ?_
  · exact ⟨Nat.le_refl _, by rw [List.take_length]⟩
  · (repeat' first | exact envLe_nil | apply envLe_any | apply envLe_same)
  · rfl
  rintro n hinv ih
  obtain ⟨hn, hv⟩ := hinv
  refine ARun.seq (ARun.seq (ARun.region ?_))
  refine y_op rfl (q_move rfl) ?_
  refine y_op rfl (q_int rfl rfl rfl) ?_
  refine y_op rfl (q_move rfl) ?_
  refine AOps.bool 8 rfl (fun h => ?_) (fun h => ?_)
  · skip
    replace h := of_decide_eq_true h
    obtain ⟨m, rfl⟩ : ∃ m, n = m + 1 := ⟨n - 1, by omega⟩
    refine y_op rfl (q_move rfl) ?_
    refine y_op rfl (q_move rfl) ?_
    refine y_op rfl (q_sub rfl rfl (nsub1_i64 (by omega) (by omega))) ?_
    refine y_op rfl (Zan (i := m) rfl rfl rfl rfl (by omega) (by omega) (nts_ne (by omega)) (drop_nat rfl)) ?_
    refine y_op rfl (q_load rfl rfl rfl (nts_load (i := m) (by omega))) ?_
    refine y_op rfl (q_int rfl rfl rfl) ?_
    refine y_op rfl (q_pick rfl rfl rfl rfl) ?_
    refine AOps.nil ?_
    refine ARun.ite rfl (fun h2 => ?_) (fun h2 => ?_)
    · skip
      refine ARun.skip (ARun.block (ARun.region ?_))
      refine y_op rfl (q_move rfl) ?_
      refine y_op rfl (q_sub rfl rfl (nsub1_i64 (by omega) (by omega))) ?_
      refine y_op rfl (Zaa rfl) ?_
      refine AOps.nil (ARun.inBlock ?_)
      refine ARun.again (ih (m) ?_ ?_) ?_ ?_
      · exact ⟨by omega, by rw [← hv, List.take_add_one, val_append, show xs[m]? = some 0 by rw [List.getElem?_eq_getElem (by omega)]; have : xs.getD m 0 = 0 := (by omega); rw [List.getD_eq_getElem?_getD, List.getElem?_eq_getElem (by omega)] at this; exact congrArg some this]; simp [val]⟩
      · exact Nat.lt_succ_self _
      · (repeat' first | exact envLe_nil | apply envLe_any | apply envLe_same)
      · rfl
    · skip
      refine ARun.exit rfl ?_
      refine ARun.seq (ARun.region ?_)
      refine y_new rfl (Zam rfl rfl rfl rfl rfl rfl rfl rfl rfl rfl rfl (by decide) (by decide)) ?_
      refine y_op rfl (q_move rfl) ?_
      refine y_op rfl (q_move rfl) ?_
      refine y_op rfl (Zdj (m := (xs.take (m + 1)).length) (ds := nts .u32 (xs.take (m + 1))) rfl rfl rfl rfl rfl (bnd_nat rfl rfl) (by omega) (by omega) (by simp) (by simp; omega) (by rw [nts_slice]; simp)) ?_
      refine y_new rfl (Zb6 rfl rfl (by decide) rfl rfl rfl rfl rfl rfl rfl rfl rfl rfl (by simp) (by simp; omega) (by rw [maxLen_eq]; simp; omega) rfl) ?_
      refine y_op rfl (Zaa rfl) ?_
      refine AOps.nil ?_
      have hc : Canon (xs.take (m + 1)) := .inr (by rw [List.length_take, Nat.min_eq_left (by omega), Nat.add_sub_cancel, List.getD_eq_getElem?_getD, List.getElem?_take, if_pos (by omega), ← List.getD_eq_getElem?_getD]; omega)
      refine ARun.ret ?_
      refine ⟨_, _, _, .tmp rfl .nil, .cons (.same _) .nil, ?_⟩
      rw [← hv, lim_val (hx.take _) hc]
      refine ⟨1, ?_, rfl⟩
      show Out.ret (D.row 1 (0 + _)) = _
      rw [Nat.zero_add]
  · skip
    replace h := of_decide_eq_false h
    have hn0 : n = 0 := by omega
    subst hn0
    refine y_skip rfl ?_
    refine y_skip rfl ?_
    refine y_skip rfl ?_
    refine y_skip rfl ?_
    refine y_skip rfl ?_
    refine y_skip rfl ?_
    refine y_op rfl (q_pick rfl rfl rfl rfl) ?_
    refine AOps.nil ?_
    refine ARun.condF rfl ?_
    refine ARun.exit rfl ?_
    refine ARun.seq (ARun.region ?_)
    refine y_new rfl (Zam rfl rfl rfl rfl rfl rfl rfl rfl rfl rfl rfl (by decide) (by decide)) ?_
    refine y_op rfl (q_move rfl) ?_
    refine y_op rfl (q_move rfl) ?_
    refine y_op rfl (Zdj (m := 0) (ds := nts .u32 []) rfl rfl rfl rfl rfl (bnd_int rfl (by omega)) (by omega) (by omega) (by simp) (by simp) (by rw [nts_slice]; simp)) ?_
    refine y_new rfl (Zb6 rfl rfl (by decide) rfl rfl rfl rfl rfl rfl rfl rfl rfl rfl (by simp) (by simp) (by rw [maxLen_eq]; simp) rfl) ?_
    refine y_op rfl (Zaa rfl) ?_
    refine AOps.nil ?_
    refine ARun.ret ?_
    refine ⟨_, _, _, .tmp rfl .nil, .cons (.same _) .nil, ?_⟩
    rw [← hv, List.take_zero, val, lim_zero]
    exact ⟨1, rfl, rfl⟩
theorem r_TrimL {xs : List Nat} {n : Nat} (hx : U32 xs) (hn : xs.length = n) (hl : n ≤ 35184372088832) (H : Heap) : HC C Zcd H [.sl n (nts .u32 xs)] (fun x H' => x = .ret (.row H.length (lim (val xs)).length) ∧ H' = H ++ [some (rowU (lim (val xs)))]) := by
  subst hn; exact HC.of_live (Zol xs hx hl) rfl rfl (by rfl) (pures_nts _) H
theorem Znt (a : Nat) (hl : (lim a).length ≤ 35184372088832) : PC C Zcd [numD a] (fun o => o = .ret (numD a)) := by
  have h := ZbZ (lim a) (U32_lim a) hl
  rwa [val_lim] at h
theorem Zml (a n : Nat) (ha : (lim a).length ≤ 1099511627) (hn : n ≤ 1099511627) (h0 : 0 < a) : HC C Zej [] [numD a, .int .i64 (n : Int)] (fun x H' => ∃ k, x = .ret (.row k (lim (a * 2 ^ n)).length) ∧ H'[k]? = some (some (rowU (lim (a * 2 ^ n))))) := by
  have hL := ln_pos.2 (Nat.pos_iff_ne_zero.1 h0)
  have hr : n % 32 < 32 := Nat.mod_lt _ (by decide)
  refine HC.run ZeG ZiF rfl ZiG (rs := [.tmp 4]) (by rw [ZiH]) (by simp only [List.length_cons, List.length_nil, Nat.reduceAdd, Nat.reduceSub, List.replicate_succ, List.replicate_zero, List.cons_append, List.nil_append]; exact rfl) ?_
  refine ARun.seq (ARun.region ?_)
  refine y_op rfl (Zaa rfl) ?_
  refine AOps.nil (ARun.seq (ARun.seq (ARun.region ?_)))
  refine y_op rfl (q_move rfl) ?_
  refine y_op rfl (Zad rfl rfl) ?_
  refine y_op rfl (q_int rfl rfl rfl) ?_
  refine AOps.nil ?_
  refine ARun.cond rfl (fun h => ?_) (fun h => ?_)
  · skip
    exfalso
    have : (lim a).length = 0 := by simpa using h
    omega
  · skip
    refine ARun.skip (ARun.seq (ARun.region ?_))
    refine y_op rfl (q_move rfl) ?_
    refine y_op rfl (q_quo rfl rfl (by omega) (nquo_i64 (n := 32) rfl (by omega))) ?_
    refine y_op rfl (q_move rfl) ?_
    refine y_op rfl (q_quo rfl rfl (by omega) (nquo_i64 (n := 32) rfl (by omega))) ?_
    refine y_op rfl (q_move rfl) ?_
    refine y_op rfl (Zad rfl rfl) ?_
    refine y_op rfl (q_add rfl rfl (nadd_i64 (by omega))) ?_
    refine y_op rfl (q_add rfl rfl (nadd1_i64 (by omega))) ?_
    refine y_new rfl (Zlj (n := n / 32) (c := n / 32 + (lim a).length + 1) rfl rfl rfl rfl rfl rfl rfl (by omega) (by show 4 * _ ≤ _; omega) (by rw [maxLen_eq]; omega) (zeros_nts _)) ?_
    refine y_op rfl (Zaa rfl) ?_
    refine AOps.nil (ARun.seq (ARun.region ?_))
    refine y_op rfl (Zaa rfl) ?_
    refine AOps.nil (ARun.seq (ARun.seq (ARun.region ?_)))
    refine y_op rfl (Zaa rfl) ?_
    refine AOps.nil (ARun.block ?_)
    refine ARun.loopI (S := Nat × Nat × List Nat × Heap) (fun σ : Nat × Nat × List Nat × Heap => [(8, .any), (22, .any), (23, .any), (24, .any), (25, .any), (26, .any), (27, .any), (28, .any), (29, .any), (30, .any), (31, .any), (32, .any), (33, .any), (34, .any), (35, .any), (36, .any), (37, .any), (38, .any), (39, .any), (40, .any), (41, .any), (42, .any), (43, .any), (44, .any), (7, .int .i64 (σ.1 : Int)), (6, .int .u64 (σ.2.1 : Int)), (5, .row σ.2.2.2.length (n / 32 + σ.1))]) (fun σ : Nat × Nat × List Nat × Heap => σ.2.2.2 ++ [some ⟨nts .u32 σ.2.2.1, Zah, 1, true, none⟩]) (fun σ : Nat × Nat × List Nat × Heap => U32 σ.2.2.1 ∧ σ.2.2.1.length = n / 32 + σ.1 ∧ σ.1 ≤ (lim a).length ∧ σ.2.1 < 2 ^ (n % 32) ∧ val σ.2.2.1 + B ^ (n / 32 + σ.1) * σ.2.1 = a % B ^ σ.1 * 2 ^ (n % 32) * B ^ (n / 32)) (fun σ : Nat × Nat × List Nat × Heap => (lim a).length - σ.1) ((0, 0, List.replicate (n / 32) 0, [])) ?_ ?_ ?_ ?_
    · exact ⟨U32.replicate, by simp, Nat.zero_le _, Nat.two_pow_pos _, by simp [val_replicate, Nat.mod_one]⟩
    · (repeat' first | exact envLe_nil | apply envLe_any | apply envLe_same)
    · rfl
    rintro ⟨i, c, ys, J⟩ hinv ih
    dsimp only at hinv ih ⊢
    obtain ⟨hu, hl, hi, hc, hv⟩ := hinv
    have hbl : (nts .u32 ys).length = n / 32 + i := by rw [nts_length, hl]
    have hc31 : 2 ^ (n % 32) ≤ 2 ^ 31 := Nat.pow_le_pow_right (by decide) (by omega)
    refine ARun.seq (ARun.seq (ARun.region ?_))
    refine y_op rfl (q_move rfl) ?_
    refine y_op rfl (q_move rfl) ?_
    refine y_op rfl (Zad rfl rfl) ?_
    refine y_op rfl (q_int rfl rfl rfl) ?_
    refine AOps.nil ?_
    refine ARun.ite rfl (fun h2 => ?_) (fun h2 => ?_)
    · skip
      have d1 := dig_lt a i
      have d2 := shl_bound d1 hr
      refine ARun.skip (ARun.seq (ARun.block (ARun.seq (ARun.region ?_))))
      refine y_op rfl (q_move rfl) ?_
      refine y_op rfl (q_move rfl) ?_
      refine y_op rfl (Zan rfl rfl rfl rfl (by omega) (by omega) (nts_ne (by omega)) (drop_nat rfl)) ?_
      refine y_op rfl (q_load rfl rfl rfl (lim_load (by omega))) ?_
      refine y_op rfl (q_conv rfl rfl rfl (nconv_u64 (by omega))) ?_
      refine y_op rfl (q_move rfl) ?_
      refine y_op rfl (q_rem rfl rfl (by omega) (nrem (n := 32) rfl)) ?_
      refine y_op rfl (q_shl rfl rfl (by omega) (nshl_u64 rfl (by omega) (by omega))) ?_
      refine y_op rfl (q_move rfl) ?_
      refine y_op rfl (q_add rfl rfl (nadd_u64 (by omega))) ?_
      refine y_op rfl (Zaa rfl) ?_
      refine AOps.nil (ARun.seq (ARun.region ?_))
      refine y_op rfl (q_move rfl) ?_
      refine y_op rfl (q_move rfl) ?_
      refine y_op rfl (q_conv rfl rfl rfl nconv_u32) ?_
      refine y_new rfl (Zam rfl rfl rfl rfl rfl rfl rfl rfl rfl rfl rfl (by decide) (by decide)) ?_
      refine Zok rfl rfl rfl rfl rfl rfl rfl rfl hbl rfl rfl (by show (_ + 1) * 4 ≤ _; omega) (by rw [maxLen_eq]; omega) (fun J' => ?_)
      rw [nts_snoc]
      refine y_op rfl (Zaa rfl) ?_
      refine AOps.nil (ARun.region ?_)
      refine y_op rfl (q_move rfl) ?_
      refine y_op rfl (q_shr rfl rfl (by omega) nshr32) ?_
      refine y_op rfl (Zaa rfl) ?_
      refine AOps.nil (ARun.inBlock (ARun.region ?_))
      refine y_op rfl (q_move rfl) ?_
      refine y_op rfl (q_add rfl rfl (nadd1_i64 (by omega))) ?_
      refine y_op rfl (Zaa rfl) ?_
      refine AOps.nil ?_
      refine ARun.again (ih ((i + 1, (dig a i * 2 ^ (n % 32) + c) / 4294967296, ys ++ [(dig a i * 2 ^ (n % 32) + c) % 4294967296], J')) ?_ ?_) ?_ ?_
      · (obtain ⟨k1, k2, k3, k4⟩ := shlA_step hu hl hr hc hv; exact ⟨k1, k2, by dsimp only; omega, k3, k4⟩)
      · (dsimp only; omega)
      · (repeat' first | exact envLe_nil | apply envLe_any | apply envLe_same)
      · rfl
    · skip
      have hin : i = (lim a).length := by omega
      subst hin
      obtain ⟨e1, e2⟩ := shlA_end hu hl hc hr hv
      rw [Nat.div_add_mod] at e2
      refine ARun.exit rfl ?_
      refine ARun.seq (ARun.region ?_)
      refine y_op rfl (q_move rfl) ?_
      refine y_op rfl (q_move rfl) ?_
      refine y_op rfl (q_conv rfl rfl rfl nconv_u32) ?_
      refine y_new rfl (Zam rfl rfl rfl rfl rfl rfl rfl rfl rfl rfl rfl (by decide) (by decide)) ?_
      refine Zok rfl rfl rfl rfl rfl rfl rfl rfl hbl rfl rfl (by show (_ + 1) * 4 ≤ _; omega) (by rw [maxLen_eq]; omega) (fun J' => ?_)
      rw [nts_snoc]
      refine y_new rfl (n_live rfl rfl (.cons (.row (o := rowU (ys ++ [c % 4294967296])) (by simp) (pures_nts _)) .nil) (r_TrimL (xs := ys ++ [c % 4294967296]) e1 (by simp [hl]) (by omega)) rfl) ?_
      refine y_op rfl (Zaa rfl) ?_
      refine AOps.nil ?_
      refine ARun.ret ?_
      refine ⟨_, _, _, .tmp rfl .nil, .cons (.same _) .nil, ?_⟩
      rw [e2]
      exact ⟨_, rfl, by simp [frz]⟩
theorem r_ShlL (a n : Nat) (ha : (lim a).length ≤ 1099511627) (hn : n ≤ 1099511627) (h0 : 0 < a) (H : Heap) : HC C Zej H [numD a, .int .i64 (n : Int)] (fun x H' => x = .ret (.row H.length (lim (a * 2 ^ n)).length) ∧ H' = H ++ [some (rowU (lim (a * 2 ^ n)))]) :=
  HC.of_live (Zml a n ha hn h0) rfl rfl (by rfl) (pures_nts _) H
theorem Zom (n : Nat) (hn : n ≤ 1099511627) : PC C Zej [numD 0, .int .i64 (n : Int)] (fun o => o = .ret (numD 0)) := by
  have hz := lim_zero
  refine PC.run ZeG ZiF rfl ZiG rfl (rs := [.tmp 4]) (by rw [ZiH]) (by simp only [List.length_cons, List.length_nil, Nat.reduceAdd, Nat.reduceSub, List.replicate_succ, List.replicate_zero, List.cons_append, List.nil_append]; exact rfl) ?_
  refine ARun.seq (ARun.region ?_)
  refine y_op rfl (Zaa rfl) ?_
  refine AOps.nil (ARun.seq (ARun.seq (ARun.region ?_)))
  refine y_op rfl (q_move rfl) ?_
  refine y_op rfl (Zad rfl rfl) ?_
  refine y_op rfl (q_int rfl rfl rfl) ?_
  refine AOps.nil ?_
  refine ARun.cond rfl (fun h => ?_) (fun h => ?_)
  · skip
    refine ARun.seq (ARun.region ?_)
    refine y_op rfl (q_move rfl) ?_
    refine y_op rfl (Zaa rfl) ?_
    refine AOps.nil ?_
    refine ARun.ret ?_
    refine ⟨_, _, _, .tmp rfl .nil, .cons (.same _) .nil, rfl, ?_⟩
    rfl
  · skip
    exfalso
    rw [lim_zero] at h
    cases h
theorem ZjK (a n : Nat) (ha : (lim a).length ≤ 1099511627) (hn : n ≤ 1099511627) : PC C Zej [numD a, .int .i64 (n : Int)] (fun o => o = .ret (numD (a * 2 ^ n))) := by
  rcases Nat.eq_zero_or_pos a with h0 | h0
  · subst h0
    rw [Nat.zero_mul]
    exact Zom n hn
  · exact PC.of_live (Zml a n ha hn h0) (by rfl) (pures_nts _)
theorem Zmm (a n : Nat) (ha : (lim a).length ≤ 1099511627) (hn : n ≤ 1099511627) : PC C Zn0 [numD a, .int .i64 (n : Int)] (fun o => o = .ret (numD (a / 2 ^ n))) := by
  have hr : n % 32 < 32 := Nat.mod_lt _ (by decide)
  refine PC.run ZiP Znh rfl Zni rfl (rs := [.tmp 4]) (by rw [Znj]) (by simp only [List.length_cons, List.length_nil, Nat.reduceAdd, Nat.reduceSub, List.replicate_succ, List.replicate_zero, List.cons_append, List.nil_append]; exact rfl) ?_
  refine ARun.seq (ARun.region ?_)
  refine y_op rfl (Zaa rfl) ?_
  refine AOps.nil (ARun.seq (ARun.seq (ARun.region ?_)))
  refine y_op rfl (q_move rfl) ?_
  refine y_op rfl (q_quo rfl rfl (by omega) (nquo_i64 (n := 32) rfl (by omega))) ?_
  refine y_op rfl (q_move rfl) ?_
  refine y_op rfl (Zad rfl rfl) ?_
  refine y_op rfl (q_int rfl rfl rfl) ?_
  refine AOps.nil ?_
  refine ARun.ite rfl (fun h => ?_) (fun h => ?_)
  · skip
    have hz : a / 2 ^ n = 0 := by
      refine Nat.div_eq_of_lt (Nat.lt_of_lt_of_le (ln_lt a) ?_)
      rw [B_pow]
      exact Nat.pow_le_pow_right (by decide) (by omega)
    refine ARun.seq (ARun.region ?_)
    refine y_op rfl (Zaa rfl) ?_
    refine AOps.nil ?_
    refine ARun.ret ?_
    refine ⟨_, _, _, .tmp rfl .nil, .cons .nil .nil, rfl, ?_⟩
    rw [hz, numD, lim_zero]; rfl
  · skip
    refine ARun.skip (ARun.seq (ARun.region ?_))
    refine y_op rfl (Zaa rfl) ?_
    refine AOps.nil (ARun.seq (ARun.seq (ARun.region ?_)))
    refine y_op rfl (q_move rfl) ?_
    refine y_op rfl (q_quo rfl rfl (by omega) (nquo_i64 (n := 32) rfl (by omega))) ?_
    refine y_op rfl (Zaa rfl) ?_
    refine AOps.nil (ARun.block ?_)
    refine ARun.loopI (S := Nat × List Nat × Heap) (fun σ : Nat × List Nat × Heap => [(7, .any), (15, .any), (16, .any), (17, .any), (18, .any), (19, .any), (20, .any), (21, .any), (22, .any), (23, .any), (24, .any), (25, .any), (26, .any), (27, .any), (28, .any), (29, .any), (30, .any), (31, .any), (32, .any), (33, .any), (34, .any), (35, .any), (36, .any), (37, .any), (6, .int .i64 ((n / 32 + σ.1 : Nat) : Int)), (5, growD (0 + σ.2.2.length) (nts .u32 σ.2.1))]) (fun σ : Nat × List Nat × Heap => growT σ.2.2 Zah (nts .u32 σ.2.1)) (fun σ : Nat × List Nat × Heap => U32 σ.2.1 ∧ σ.2.1.length = σ.1 ∧ n / 32 + σ.1 ≤ (lim a).length ∧ val σ.2.1 = a / 2 ^ n % B ^ σ.1) (fun σ : Nat × List Nat × Heap => (lim a).length - (n / 32 + σ.1)) ((0, [], [])) ?_ ?_ ?_ ?_
    · exact ⟨U32.nil, rfl, by dsimp only; omega, by simp [val, Nat.mod_one]⟩
    · (repeat' first | exact envLe_nil | apply envLe_any | apply envLe_same)
    · rfl
    rintro ⟨i, ys, J⟩ hinv ih
    dsimp only at hinv ih ⊢
    obtain ⟨hu, hl, hi, hv⟩ := hinv
    have hbl : (nts .u32 ys).length = i := by rw [nts_length, hl]
    refine ARun.seq (ARun.seq (ARun.region ?_))
    refine y_op rfl (q_move rfl) ?_
    refine y_op rfl (q_move rfl) ?_
    refine y_op rfl (Zad rfl rfl) ?_
    refine y_op rfl (q_int rfl rfl rfl) ?_
    refine AOps.nil ?_
    refine ARun.ite rfl (fun h2 => ?_) (fun h2 => ?_)
    · skip
      have d1 := dig_lt a (n / 32 + i)
      have d2 := dig_lt a (n / 32 + i + 1)
      refine ARun.skip (ARun.seq (ARun.block (ARun.seq (ARun.region ?_))))
      refine y_op rfl (q_move rfl) ?_
      refine y_op rfl (q_move rfl) ?_
      refine y_op rfl (q_add rfl rfl (nadd1_i64 (by omega))) ?_
      refine y_op rfl (q_call rfl rfl (ZaI a (n / 32 + i + 1))) ?_
      refine y_op rfl (q_shl rfl rfl (by omega) (nshl_u64 (s := 32) rfl (by omega) (by omega))) ?_
      refine y_op rfl (q_move rfl) ?_
      refine y_op rfl (q_move rfl) ?_
      refine y_op rfl (q_call rfl rfl (ZaI a (n / 32 + i))) ?_
      refine y_op rfl (q_add rfl rfl (nadd_u64 (by omega))) ?_
      refine y_op rfl (q_move rfl) ?_
      refine y_op rfl (q_rem rfl rfl (by omega) (nrem (n := 32) rfl)) ?_
      refine y_op rfl (q_shr rfl rfl (by omega) (nshr rfl (by simp [IntKind.bits]; omega))) ?_
      refine y_op rfl (Zaa rfl) ?_
      refine AOps.nil (ARun.region ?_)
      refine y_op rfl (q_move rfl) ?_
      refine y_op rfl (q_move rfl) ?_
      refine y_op rfl (q_conv rfl rfl rfl nconv_u32) ?_
      rw [shrA_dig]
      refine y_new rfl (Zam rfl rfl rfl rfl rfl rfl rfl rfl rfl rfl rfl (by decide) (by decide)) ?_
      refine y_grow rfl rfl rfl rfl rfl rfl rfl rfl rfl rfl (by show (_ + 1) * 4 ≤ _; omega) (by omega) (fun J' => ?_)
      rw [nts_snoc]
      refine y_op rfl (Zaa rfl) ?_
      refine AOps.nil (ARun.inBlock (ARun.region ?_))
      refine y_op rfl (q_move rfl) ?_
      refine y_op rfl (q_add rfl rfl (nadd1_i64 (by omega))) ?_
      refine y_op rfl (Zaa rfl) ?_
      refine AOps.nil ?_
      refine ARun.again (ih ((i + 1, ys ++ [dig (a / 2 ^ n) i], J')) ?_ ?_) ?_ ?_
      · (obtain ⟨k1, k2, k3⟩ := shrA_step hu hl hv; exact ⟨k1, k2, by dsimp only; omega, k3⟩)
      · (dsimp only; omega)
      · (repeat' first | exact envLe_nil | apply envLe_any | apply envLe_same)
      · rfl
    · skip
      have hin : n / 32 + i = (lim a).length := by omega
      have hle : (lim (a / 2 ^ n)).length ≤ i := by
        rw [div_split]
        refine Nat.le_trans (ln_mono (Nat.div_le_self _ _)) ?_
        rw [ln_div]; omega
      refine ARun.growEnd 5 rfl (pures_nts _) (fun J' => ?_)
      rw [sln_len]
      refine ARun.exit rfl ?_
      refine ARun.seq (ARun.region ?_)
      refine y_op rfl (q_move rfl) ?_
      refine y_op rfl (q_call rfl rfl (ZbZ ys hu (by omega))) ?_
      refine y_op rfl (Zaa rfl) ?_
      refine AOps.nil ?_
      refine ARun.ret ?_
      refine ⟨_, _, _, .tmp rfl .nil, .cons (.same _) .nil, rfl, ?_⟩
      rw [hv, mod_of_ln hle]
      rfl
theorem Znu (a b : Nat) (ha : (lim a).length ≤ 1099511627776) (hb : 0 < b) (hb2 : b < 4294967296) : PC C Zl3 [numD a, .int .u32 (b : Int)] (fun o => o = .ret (.agg [numD (a / b), numD (a % b)])) := by
  refine PC.run Zfv ZkV rfl ZkW rfl (rs := [.cell 4 178]) (by rw [ZkX]) (by simp only [List.length_cons, List.length_nil, Nat.reduceAdd, Nat.reduceSub, List.replicate_succ, List.replicate_zero, List.cons_append, List.nil_append]; exact rfl) ?_
  refine ARun.seq (ARun.region ?_)
  refine y_new rfl (Zag rfl rfl rfl rfl) ?_
  refine AOps.nil (ARun.seq (ARun.region ?_))
  refine y_op rfl (q_move rfl) ?_
  refine y_op rfl (Zad rfl rfl) ?_
  refine y_new rfl (Zav rfl rfl rfl rfl rfl rfl rfl (by omega) (by rw [maxLen_eq]; omega) (zeros_nts _)) ?_
  refine y_op rfl (Zaa rfl) ?_
  refine AOps.nil (ARun.seq (ARun.region ?_))
  refine y_op rfl (Zaa rfl) ?_
  refine AOps.nil (ARun.seq (ARun.seq (ARun.region ?_)))
  refine y_op rfl (q_move rfl) ?_
  refine y_op rfl (Zad rfl rfl) ?_
  refine y_op rfl (q_sub rfl rfl (IntWalk.i64_in _ (by omega))) ?_
  refine y_op rfl (Zaa rfl) ?_
  refine AOps.nil (ARun.block ?_)
  refine ARun.loopI (S := Nat × Nat × List Nat) (fun σ : Nat × Nat × List Nat => [(8, .any), (15, .any), (16, .any), (17, .any), (18, .any), (19, .any), (20, .any), (21, .any), (22, .any), (23, .any), (24, .any), (25, .any), (26, .any), (27, .any), (28, .any), (29, .any), (30, .any), (31, .any), (32, .any), (33, .any), (34, .any), (35, .any), (36, .any), (37, .any), (38, .any), (7, .int .i64 ((σ.1 : Int) - 1)), (6, .int .u64 (σ.2.1 : Int))]) (fun σ : Nat × Nat × List Nat => [some ⟨[.nilsl, .nilsl], Zaj, 1, true, none⟩, some ⟨nts .u32 σ.2.2, Zah, 1, true, none⟩]) (fun σ : Nat × Nat × List Nat => U32 σ.2.2 ∧ σ.2.2.length = (lim a).length ∧ σ.1 ≤ σ.2.2.length ∧ σ.2.1 < b ∧ val (σ.2.2.drop σ.1) * b + σ.2.1 = a / B ^ σ.1) (fun σ : Nat × Nat × List Nat => σ.1) (((lim a).length, 0, List.replicate (lim a).length 0)) ?_ ?_ ?_ ?_
  · exact ⟨U32.replicate, by simp, by simp, hb, by simp [val, Nat.div_eq_of_lt (ln_lt a)]⟩
  · (repeat' first | exact envLe_nil | apply envLe_any | apply envLe_same)
  · rfl
  rintro ⟨j, r, ys⟩ hinv ih
  dsimp only at hinv ih ⊢
  obtain ⟨hu, hl, hj, hr, hv⟩ := hinv
  refine ARun.seq (ARun.seq (ARun.region ?_))
  refine y_op rfl (q_move rfl) ?_
  refine y_op rfl (q_int rfl rfl rfl) ?_
  refine AOps.nil ?_
  refine ARun.ite rfl (fun h => ?_) (fun h => ?_)
  · skip
    obtain ⟨i, rfl⟩ : ∃ i, j = i + 1 := ⟨j - 1, by omega⟩
    rw [show (((i + 1 : Nat) : Int) - 1) = (i : Int) by omega]
    have d1 := dig_lt a i
    have es : r * 2 ^ 32 + dig a i = dig a i + r * 2 ^ 32 := Nat.add_comm _ _
    refine ARun.skip (ARun.seq (ARun.block (ARun.seq (ARun.region ?_))))
    refine y_op rfl (q_move rfl) ?_
    refine y_op rfl (q_shl rfl rfl (by omega) (nshl_u64 (s := 32) rfl (by omega) (by omega))) ?_
    refine y_op rfl (q_move rfl) ?_
    refine y_op rfl (q_move rfl) ?_
    refine y_op rfl (Zan rfl rfl rfl rfl (by omega) (by omega) (nts_ne (by omega)) (drop_nat rfl)) ?_
    refine y_op rfl (q_load rfl rfl rfl (lim_load (by omega))) ?_
    refine y_op rfl (q_conv rfl rfl rfl (nconv_u64 (by omega))) ?_
    refine y_op rfl (q_add rfl rfl (nadd_u64 (by omega))) ?_
    rw [es]
    refine y_op rfl (Zaa rfl) ?_
    refine AOps.nil (ARun.seq (ARun.region ?_))
    refine y_op rfl (q_move rfl) ?_
    refine y_op rfl (q_move rfl) ?_
    refine y_op rfl (q_move rfl) ?_
    refine y_op rfl (q_move rfl) ?_
    refine y_op rfl (q_conv rfl rfl rfl (nconv_u64 (by omega))) ?_
    refine y_op rfl (q_quo rfl rfl (by omega) (nquo_u64 rfl (by omega))) ?_
    refine y_op rfl (q_conv rfl rfl rfl nconv_u32) ?_
    refine y_op rfl (Zao rfl rfl rfl rfl rfl (by omega) (by omega) (idx_nat rfl)) ?_
    refine y_new rfl (Zai rfl rfl rfl rfl rfl rfl (by simp; omega) nts_set) ?_
    refine AOps.nil (ARun.region ?_)
    refine y_op rfl (q_move rfl) ?_
    refine y_op rfl (q_move rfl) ?_
    refine y_op rfl (q_conv rfl rfl rfl (nconv_u64 (by omega))) ?_
    refine y_op rfl (q_rem rfl rfl (by omega) (nrem rfl)) ?_
    refine y_op rfl (Zaa rfl) ?_
    refine AOps.nil (ARun.inBlock (ARun.region ?_))
    refine y_op rfl (q_move rfl) ?_
    refine y_op rfl (q_sub rfl rfl (IntWalk.i64_in _ (by omega))) ?_
    refine y_op rfl (Zaa rfl) ?_
    refine AOps.nil ?_
    refine ARun.again (ih ((i, (dig a i + r * 2 ^ 32) % b, ys.set i ((dig a i + r * 2 ^ 32) / b % 4294967296))) ?_ ?_) ?_ ?_
    · (obtain ⟨k1, k2, k3, k4⟩ := sh_step hu hl (by omega) hb hb2 hr hv; exact ⟨k1, k2, by rw [k2]; omega, k3, k4⟩)
    · (dsimp only; omega)
    · (repeat' first | exact envLe_nil | apply envLe_any | apply envLe_same)
    · rfl
  · skip
    have hj0 : j = 0 := by omega
    subst hj0
    obtain ⟨e1, e2⟩ := sh_end hr hv
    refine ARun.exit rfl ?_
    refine ARun.seq (ARun.region ?_)
    refine y_op rfl (q_move rfl) ?_
    refine y_new rfl (n_call rfl rfl (.cons (.row rfl (pures_nts _)) .nil) (Zbu hu hl (by omega)) rfl) ?_
    refine y_op rfl (q_move rfl) ?_
    refine y_op rfl (q_call rfl rfl (Zmd r (by omega))) ?_
    refine y_op rfl (Zap rfl rfl rfl rfl rfl) ?_
    refine y_new rfl (Zac rfl rfl rfl rfl rfl rfl rfl rfl (Nat.le_of_ble_eq_true rfl) rfl) ?_
    refine AOps.nil ?_
    refine ARun.ret ?_
    refine ⟨_, _, _, ResR.cellA rfl rfl rfl rfl rfl rfl .nil, .cons (.same _) .nil, rfl, ?_⟩
    rw [List.drop_zero] at e1
    rw [e1, e2]
    rfl
end Go.V
