/- A part of the proof: abstract values, rules for the steps of the program's form, and contracts of its functions, each proved; no condition. -/
import Derived.Test.YtjohcjagbodicaaGreatDoorA11
import Derived.Shelf.Strings.Builder1
import Derived.Shelf.Strings.Builder2
import Derived.Lib.Case
import Derived.Lib.TrimByte
import Derived.BigCall
import Derived.BigGuard
import Derived.Test.YtjohcjagbodicaaGreatDoorProg
set_option linter.unusedVariables false
set_option linter.unusedSimpArgs false
/- SLICES THAT GROW BY APPEND, where what became of the old rows is forgotten. -/
namespace Go.V
open Go.RowKit
def growT (J : Heap) (e : TypeId) : List D → Heap
  | [] => J
  | c :: cs => J ++ [some ⟨c :: cs, e, 1, true, none⟩]
def growD (k : Nat) : List D → D
  | [] => .nilsl
  | c :: cs => .row k (cs.length + 1)
class GrowL (H : Heap) (n : outParam Nat) (J : outParam Heap) (e : outParam TypeId) (cs : outParam (List D)) (F : outParam (Heap → Heap)) : Prop where
  prf : ∃ B : Heap, B.length = n ∧ H = B ++ growT J e cs ∧ F = fun X => B ++ X
instance GrowL.base {J : Heap} {e : TypeId} {cs : List D} : GrowL (growT J e cs) 0 J e cs (fun X => X) := ⟨[], rfl, rfl, rfl⟩
instance GrowL.cons {l : Heap} {b : Option AObj} {n : Nat} {J : Heap} {e : TypeId} {cs : List D} {F : Heap → Heap} [g : GrowL l n J e cs F] : GrowL (b :: l) (n + 1) J e cs (fun X => b :: F X) := by
  obtain ⟨B, h1, h2, h3⟩ := g.prf
  exact ⟨b :: B, by simp [h1], by rw [h2]; rfl, by rw [h3]; rfl⟩
section
variable {C : Ctx} {Q : Post} {k : List Item} {env env' : List D} {H H0 : Heap} {df : List ADef} {ops : Array Oper} {rest : List Oper} {i : Nat} {is : List Nat} {d dx : D}
variable {dst : Option Tmp} {ty : TypeId} {pos : String} {aft : Array Edge} {gd : Option (Nat × Bool)} {x y : Operand} {T e : TypeId} {te tee : TE} {n b S : Nat} {J : Heap} {cs : List D} {F : Heap → Heap} {zv : Value} {dz : D} {zs : List D}
theorem h_grow [g : GrowL H0 n J e cs F] (ht : C.ty T = some ⟨.slice e, S, b, zv⟩) (hee : C.ty e = some tee) (h1 : tee.size = 1) (hz : constD tee.zero = some dz) (hzs : cellsD dz = some zs) (hzl : zs.length = 1)
    (hx : evO C env x = some (growD (n + J.length) cs)) (hy : evO C env y = some (.row H0.length 1)) (hH : H = H0 ++ [some ⟨[dx], e, 1, true, none⟩]) (hb : (cs.length + 1) * tee.bytes ≤ 140737488355328) (hm : cs.length + 1 ≤ 1099511627776) :
    OpH C ⟨dst, .call ⟨.builtin .append, #[x, y], #[T, T]⟩, ty, pos, aft, gd⟩ env H (fun d H' => ∃ J' : Heap, d = growD (n + J'.length) (cs ++ [dx]) ∧ H' = F (growT J' e (cs ++ [dx]))) (fun _ _ => False) := by
  obtain ⟨B, g1, g2, g3⟩ := g.prf
  obtain ⟨sk, sz, sb, sv⟩ := tee
  subst h1
  subst g3
  subst hH
  subst g1
  have hsrc : srcD (H0 ++ [some ⟨[dx], e, 1, true, none⟩]) (.row H0.length 1) = some (1, [dx]) := by simp [srcD]
  replace hm : cs.length + 1 ≤ maxLen := by rw [maxLen_eq]; omega
  cases cs with
  | nil =>
    subst g2
    have h := ZgY (C := C) (dst := dst) (ty := ty) (pos := pos) (aft := aft) (gd := gd) (ty_slice ht) (ty_tic hee).1 (Nat.one_pos) hz hzs hzl hx hy hsrc rfl (by decide) (by simpa using hb) (by simpa using hm)
    refine OpH.mono ?_ (fun _ _ h => h) h
    rintro d H' ⟨rfl, rfl⟩
    refine ⟨J ++ [some ⟨[dx], e, 1, true, none⟩], ?_, ?_⟩
    · simp [growD, growT, Nat.add_assoc]
    · simp [growT]
  | cons c cs =>
    subst g2
    have ho : (B ++ growT J e (c :: cs) ++ [some ⟨[dx], e, 1, true, none⟩])[B.length + J.length]? = some (some ⟨c :: cs, e, 1, true, none⟩) := by
      simp only [growT]
      rw [List.append_assoc, List.getElem?_append_right (by omega), Nat.add_sub_cancel_left, List.append_assoc, List.getElem?_append_right (by omega)]
      simp
    have h := ZiK (C := C) (dst := dst) (ty := ty) (pos := pos) (aft := aft) (gd := gd) (ty_slice ht) (ty_tic hee).1 (Nat.one_pos) hz hzs hzl (n := cs.length + 1) (m := 1) hx ho rfl rfl rfl hy hsrc rfl (by simpa using hb) (by simpa using hm)
    refine OpH.mono ?_ (fun _ _ h => h) h
    rintro d H' ⟨rfl, rfl⟩
    refine ⟨J ++ [none, some ⟨[dx], e, 1, true, none⟩], ?_, ?_⟩
    · simp [growD, growT, Nat.add_assoc]
    · have e1 : ∀ r t : Option AObj, B ++ (J ++ [r]) ++ [t] = (B ++ J) ++ [r, t] := fun r t => by simp
      simp only [growT, List.cons_append]
      rw [e1, List.set_append_right _ _ (by simp), show B.length + J.length - (B ++ J).length = 0 by simp]
      simp
theorem y_grow [g : GrowL H0 n J e cs F] {E : Heap → List D} (hg : gOk ops.toList env gd = some true) (ht : C.ty T = some ⟨.slice e, S, b, zv⟩) (hee : C.ty e = some tee) (h1 : tee.size = 1) (hz : constD tee.zero = some dz) (hzs : cellsD dz = some zs) (hzl : zs.length = 1)
    (hx : evO C env x = some (growD (n + J.length) cs)) (hy : evO C env y = some (.row H0.length 1)) (hH : H = H0 ++ [some ⟨[dx], e, 1, true, none⟩]) (hb : (cs.length + 1) * tee.bytes ≤ 140737488355328) (hm : cs.length + 1 ≤ 1099511627776)
    [hp : ∀ J' : Heap, Put env dst (growD (n + J'.length) (cs ++ [dx])) (E J')] (hk : ∀ J' : Heap, AOps C Q ops rest k (E J') (F (growT J' e (cs ++ [dx]))) df) :
    AOps C Q ops (⟨dst, .call ⟨.builtin .append, #[x, y], #[T, T]⟩, ty, pos, aft, gd⟩ :: rest) k env H df :=
  AOps.opH hg (h_grow ht hee h1 hz hzs hzl hx hy hH hb hm) (fun d H' ⟨J', h1, h2⟩ => by subst h1; subst h2; have := (hp J').eq; simp only at this ⊢; rw [this]; exact hk J') (fun _ _ h => h.elim)
theorem yo_grow [g : GrowL H0 n J e cs F] {E : Heap → List D} (hg : gOk ops.toList env gd = some true) (ht : C.ty T = some ⟨.slice e, S, b, zv⟩) (hee : C.ty e = some tee) (h1 : tee.size = 1) (hz : constD tee.zero = some dz) (hzs : cellsD dz = some zs) (hzl : zs.length = 1)
    (hx : evO C env x = some (growD (n + J.length) cs)) (hy : evO C env y = some (.row H0.length 1)) (hH : H = H0 ++ [some ⟨[dx], e, 1, true, none⟩]) (hb : (cs.length + 1) * tee.bytes ≤ 140737488355328) (hm : cs.length + 1 ≤ 1099511627776)
    [hp : ∀ J' : Heap, Put env dst (growD (n + J'.length) (cs ++ [dx])) (E J')] (hk : ∀ J' : Heap, ARun C Q (.inRegion ops is :: k) (E J') (F (growT J' e (cs ++ [dx]))) df) :
    AOne C Q ops ⟨dst, .call ⟨.builtin .append, #[x, y], #[T, T]⟩, ty, pos, aft, gd⟩ is k env H df :=
  yo_opH hg (h_grow ht hee h1 hz hzs hzl hx hy hH hb hm) (fun d H' ⟨J', h1, h2⟩ => by subst h1; subst h2; have := (hp J').eq; simp only at this ⊢; rw [this]; exact hk J') (fun _ _ h => h.elim)
theorem ARun.growEnd [g : GrowL H n J e cs F] (t : Nat) (ht : env[t]? = some (growD (n + J.length) cs)) (hc : D.pure.pures cs = true) [hp : Put env (some t) (.sl cs.length cs) env'] (hk : ∀ J' : Heap, ARun C Q k env' (F J') df) : ARun C Q k env H df := by
  obtain ⟨B, g1, g2, g3⟩ := g.prf
  subst g3; subst g2; subst g1
  have hp := hp.eq
  subst hp
  have htl : t < env.length := (List.getElem?_eq_some_iff.1 ht).1
  cases cs with
  | nil =>
    have := hk J
    refine ⟨fun L0 w0 μ0 H0 w μ a hs hv hd he b cs hrd => this.out L0 w0 μ0 H0 w μ a hs ?_ hd he b cs hrd⟩
    refine VRs_mk (by rw [VRs_length hv]; simp [envPut]) fun j d v h1 h2 => ?_
    simp only [envPut, List.getElem?_set] at h1
    by_cases e : t = j
    · subst e
      simp only [htl, if_true] at h1
      injection h1 with h1; subst h1
      obtain ⟨v', h3, h4⟩ := VRs_get hv ht
      rw [h2] at h3; injection h3 with h3; subst h3
      exact Fz.ok (H := []) hs .nil (by simp) h4
    · rw [if_neg e] at h1
      obtain ⟨v', h3, h4⟩ := VRs_get hv h1
      rw [h2] at h3; injection h3 with h3; subst h3; exact h4
  | cons c cs' =>
    have ho : (B ++ growT J e (c :: cs'))[B.length + J.length]? = some (some ⟨c :: cs', e, 1, true, none⟩) := by
      simp only [growT]
      rw [List.getElem?_append_right (by omega), Nat.add_sub_cancel_left, List.getElem?_append_right (by omega)]
      simp
    have hset : (B ++ growT J e (c :: cs')).set (B.length + J.length) (some ⟨c :: cs', e, 1, false, none⟩) = B ++ (J ++ [some ⟨c :: cs', e, 1, false, none⟩]) := by
      simp only [growT]
      rw [List.set_append_right _ _ (by omega), Nat.add_sub_cancel_left, List.set_append_right _ _ (by omega)]
      simp
    have hw : HWeak (B ++ growT J e (c :: cs')) (B ++ (J ++ [some ⟨c :: cs', e, 1, false, none⟩])) := by rw [← hset]; exact HWeak.one ho
    have := hk (J ++ [some ⟨c :: cs', e, 1, false, none⟩])
    refine ARun.weak hw ⟨fun L0 w0 μ0 H0 w μ a hs hv hd he b cs hrd => this.out L0 w0 μ0 H0 w μ a hs ?_ hd he b cs hrd⟩
    refine VRs_mk (by rw [VRs_length hv]; simp [envPut]) fun j d v h1 h2 => ?_
    simp only [envPut, List.getElem?_set] at h1
    by_cases e : t = j
    · subst e
      simp only [htl, if_true] at h1
      injection h1 with h1; subst h1
      obtain ⟨v', h3, h4⟩ := VRs_get hv ht
      rw [h2] at h3; injection h3 with h3; subst h3
      refine Fz.ok hs (.row ho hc) (fun i hi o ho' => ?_) h4
      simp only [List.mem_cons, List.not_mem_nil, or_false] at hi
      subst hi
      rw [ho] at ho'
      injection ho' with ho'; injection ho' with ho'; subst ho'
      rw [← hset]
      rw [List.getElem?_set_self (List.getElem?_eq_some_iff.1 ho).1]
    · rw [if_neg e] at h1
      obtain ⟨v', h3, h4⟩ := VRs_get hv h1
      rw [h2] at h3; injection h3 with h3; subst h3; exact h4
theorem okCell_grow {B : Heap} {m : Nat} (hm : m = B.length + J.length) : okCell (B ++ growT J e cs) (growD m cs) = true := by
  subst hm
  cases cs with
  | nil => rfl
  | cons c cs =>
    have ho : (B ++ growT J e (c :: cs))[B.length + J.length]? = some (some ⟨c :: cs, e, 1, true, none⟩) := by
      simp only [growT]
      rw [List.getElem?_append_right (by omega), Nat.add_sub_cancel_left, List.getElem?_append_right (by omega)]
      simp
    simp only [okCell, growD, ho]; rfl
end
end Go.V
set_option synthInstance.maxSize 100000
set_option synthInstance.maxHeartbeats 2000000
namespace Go.V
open Go.RowKit Go.Proofs
theorem chk_ex (b : Nat) (h : 2 ≤ b) (h2 : b < 4294967296) : ∃ m : Nat, 0 < m ∧ b ^ m < 4294967296 ∧ 4294967296 ≤ b ^ (m + 1) := by
  apply Classical.byContradiction
  intro hn
  have key : ∀ m : Nat, b ^ (m + 1) < 4294967296 := by
    intro m
    induction m with
    | zero => simpa using h2
    | succ m ih =>
      rcases Nat.lt_or_ge (b ^ (m + 1 + 1)) 4294967296 with h1 | h1
      · exact h1
      · exact (hn ⟨m + 1, by omega, ih, h1⟩).elim
  have h3 := key 31
  have h4 : 2 ^ 32 ≤ b ^ 32 := Nat.pow_le_pow_left h 32
  have : (2 : Nat) ^ 32 = 4294967296 := by decide
  rw [show 31 + 1 = 32 from rfl] at h3
  omega
theorem ZlD (b m : Nat) (h : 2 ≤ b) (h36 : b ≤ 36) (hm : 0 < m) (h1 : b ^ m < 4294967296) (h2 : 4294967296 ≤ b ^ (m + 1)) : PC C ZiC [.int .i64 (b : Int)] (fun o => o = .ret (.tup [.int .u32 ((b ^ m : Nat) : Int), .int .i64 (m : Int)])) := by
  have hml : m < 32 := by
    rcases Nat.lt_or_ge m 32 with h3 | h3
    · exact h3
    · exfalso
      have h4 : 2 ^ 32 ≤ b ^ 32 := Nat.pow_le_pow_left h 32
      have h5 : b ^ 32 ≤ b ^ m := Nat.pow_le_pow_right (by omega) h3
      have : (2 : Nat) ^ 32 = 4294967296 := by decide
      omega
  refine PC.run Zdt ZhH rfl ZhI rfl (rs := [.tmp 2, .tmp 3]) (by rw [ZhJ]) (by simp only [List.length_cons, List.length_nil, Nat.reduceAdd, Nat.reduceSub, List.replicate_succ, List.replicate_zero, List.cons_append, List.nil_append]; exact rfl) ?_
  refine ARun.seq (ARun.region ?_)
  refine y_op rfl (Zaa rfl) ?_
  refine y_op rfl (Zaa rfl) ?_
  refine AOps.nil (ARun.seq (ARun.region ?_))
  refine y_op rfl (q_move rfl) ?_
  refine y_op rfl (q_conv rfl rfl rfl (nconv_u64 (by omega))) ?_
  refine y_op rfl (Zaa rfl) ?_
  refine y_op rfl (Zaa rfl) ?_
  refine AOps.nil (ARun.seq (ARun.block ?_))
  refine ARun.loopI (S := Nat × Nat) (fun σ : Nat × Nat => [(8, .any), (9, .any), (10, .any), (11, .any), (12, .any), (13, .any), (14, .any), (15, .any), (16, .any), (17, .any), (18, .any), (4, .int .u64 (σ.2 : Int)), (5, .int .i64 (σ.1 : Int))]) (fun σ : Nat × Nat => []) (fun σ : Nat × Nat => σ.2 = b ^ σ.1 ∧ 0 < σ.1 ∧ σ.1 ≤ m) (fun σ : Nat × Nat => m - σ.1) ((1, b)) ?_ ?_ ?_ ?_
  · exact ⟨by simp, by show 0 < 1; decide, hm⟩
  · (repeat' first | exact envLe_nil | apply envLe_any | apply envLe_same)
  · rfl
  rintro ⟨n, p⟩ hinv ih
  dsimp only at hinv ih ⊢
  obtain ⟨hpe, hn, hnm⟩ := hinv
  have hpl : p < 4294967296 := by rw [hpe]; exact Nat.lt_of_le_of_lt (Nat.pow_le_pow_right (by omega) hnm) h1
  have hpm : b ^ (n + 1) = p * b := by rw [Nat.pow_succ, hpe]
  have hpb : p * b ≤ 4294967296 * 36 := Nat.mul_le_mul (by omega) h36
  refine ARun.seq (ARun.seq (ARun.region ?_))
  refine y_op rfl (q_move rfl) ?_
  refine y_op rfl (q_move rfl) ?_
  refine y_op rfl (q_conv rfl rfl rfl (nconv_u64 (by omega))) ?_
  refine y_op rfl (q_mul rfl rfl (nmul_u64 (by omega))) ?_
  refine y_op rfl (q_int rfl rfl rfl) ?_
  refine AOps.nil ?_
  refine ARun.ite rfl (fun hc => ?_) (fun hc => ?_)
  · skip
    have hc2 : b ^ (n + 1) < 4294967296 := by rw [hpm]; omega
    have hlt : n < m := by
      rcases Nat.lt_or_ge n m with h3 | h3
      · exact h3
      · exfalso
        have : n = m := by omega
        subst this
        omega
    refine ARun.skip (ARun.block (ARun.region ?_))
    refine y_op rfl (q_move rfl) ?_
    refine y_op rfl (q_move rfl) ?_
    refine y_op rfl (q_conv rfl rfl rfl (nconv_u64 (by omega))) ?_
    refine y_op rfl (q_mul rfl rfl (nmul_u64 (by omega))) ?_
    refine y_op rfl (q_move rfl) ?_
    refine y_op rfl (q_add rfl rfl (nadd1_i64 (by omega))) ?_
    refine y_op rfl (Zaa rfl) ?_
    refine y_op rfl (Zaa rfl) ?_
    refine AOps.nil (ARun.inBlock ?_)
    refine ARun.again (ih ((n + 1, p * b)) ?_ ?_) ?_ ?_
    · exact ⟨hpm.symm, by dsimp only; omega, by dsimp only; omega⟩
    · (dsimp only; omega)
    · (repeat' first | exact envLe_nil | apply envLe_any | apply envLe_same)
    · rfl
  · skip
    have hc2 : 4294967296 ≤ b ^ (n + 1) := by rw [hpm]; omega
    have hlt : n = m := by
      rcases Nat.lt_or_ge n m with h3 | h3
      · exfalso
        have : b ^ (n + 1) ≤ b ^ m := Nat.pow_le_pow_right (by omega) (by omega)
        omega
      · omega
    subst hlt
    refine ARun.exit rfl ?_
    refine ARun.seq (ARun.region ?_)
    refine y_op rfl (q_move rfl) ?_
    refine y_op rfl (q_conv rfl rfl rfl nconv_u32) ?_
    refine y_op rfl (q_move rfl) ?_
    refine y_op rfl (Zaa rfl) ?_
    refine y_op rfl (Zaa rfl) ?_
    refine AOps.nil ?_
    refine ARun.ret ?_
    refine ⟨_, _, _, .tmp rfl (.tmp rfl .nil), .cons (.same _) (.cons (.same _) .nil), rfl, ?_⟩
    rw [← hpe, show p % 4294967296 = p from Nat.mod_eq_of_lt hpl]; rfl
end Go.V
set_option maxHeartbeats 2000000
set_option synthInstance.maxSize 100000
set_option synthInstance.maxHeartbeats 2000000
namespace Go.V
open Go.RowKit Go.Proofs
def dgs (b v : Nat) : List Nat := if h : v = 0 ∨ b < 2 then [] else (v % b) :: dgs b (v / b)
termination_by v
decreasing_by exact Nat.div_lt_self (by omega) (by omega)
theorem dgs_zero (b : Nat) : dgs b 0 = [] := by rw [dgs]; rw [dif_pos (.inl rfl)]
theorem dgs_pos {b v : Nat} (hb : 2 ≤ b) (hv : 0 < v) : dgs b v = (v % b) :: dgs b (v / b) := by rw [dgs]; rw [dif_neg (by omega)]
theorem drop_get' {α : Type} [Inhabited α] {l : List α} {k : Nat} {x : α} {r : List α} (h : l.drop k = x :: r) : k < l.length ∧ l[k]? = some x ∧ l.drop (k + 1) = r := by
  have h1 : k < l.length := by
    rcases Nat.lt_or_ge k l.length with h1 | h1
    · exact h1
    · rw [List.drop_eq_nil_of_le h1] at h; cases h
  refine ⟨h1, ?_, ?_⟩
  · rw [List.drop_eq_getElem_cons h1] at h
    injection h with h _
    rw [← h]; simp
  · rw [List.drop_eq_getElem_cons h1] at h
    injection h with _ h
theorem dgs_lt {b : Nat} (hb : 2 ≤ b) : ∀ v : Nat, ∀ d ∈ dgs b v, d < b := by
  intro v
  induction v using Nat.strongRecOn with
  | _ v ih =>
    intro d hd
    rcases Nat.eq_zero_or_pos v with h0 | h0
    · subst h0; rw [dgs_zero] at hd; cases hd
    · rw [dgs_pos hb h0] at hd
      rcases List.mem_cons.1 hd with rfl | hd
      · exact Nat.mod_lt _ (by omega)
      · exact ih _ (Nat.div_lt_self h0 (by omega)) d hd
theorem one_lt_pow {b m : Nat} (hb : 2 ≤ b) (hm : 0 < m) : 1 < b ^ m := by
  have h := Nat.pow_le_pow_right (n := b) (by omega) hm
  rw [Nat.pow_one] at h
  omega
theorem chk_lt {b m : Nat} (hb : 2 ≤ b) (h1 : b ^ m < 4294967296) : m < 64 := by
  rcases Nat.lt_or_ge m 64 with h3 | h3
  · exact h3
  · exfalso
    have h4 : 2 ^ 32 ≤ b ^ 32 := Nat.pow_le_pow_left hb 32
    have h5 : b ^ 32 ≤ b ^ m := Nat.pow_le_pow_right (by omega) (by omega)
    have : (2 : Nat) ^ 32 = 4294967296 := by decide
    omega
theorem digN {n q b m i : Nat} (h : i < m) : (n + q * b ^ (m - i)) % b = n % b := by
  rw [show m - i = (m - i - 1) + 1 by omega, Nat.pow_succ, ← Nat.mul_assoc, Nat.add_mul_mod_self_right]
theorem divN {n q b j : Nat} (h : 0 < b) : (n + q * b ^ (j + 1)) / b = n / b + q * b ^ j := by
  rw [Nat.pow_succ, ← Nat.mul_assoc, Nat.add_mul_div_right _ _ h]
theorem numD_small {p : Nat} (h0 : 0 < p) (h : p < 4294967296) : D.sl 1 [.int .u32 (p : Int)] = numD p := by
  rw [numD, lim_pos (by omega), show p / B = 0 from Nat.div_eq_of_lt h, lim_zero, show p % B = p from Nat.mod_eq_of_lt h]; rfl
theorem Zmi (a b : Nat) (o0 : Option AObj) : HC C ZhG [o0] [numD a, .int .i64 (b : Int)] (fun o H' => o = .ret (.clos Zcz [.ptr 2 0, .ptr 1 0]) ∧ H' = [o0, some ⟨[numD a], ZdI, 1, true, none⟩, some ⟨[.int .i64 (b : Int)], t_int, 1, true, none⟩]) := by
  refine HC.run Zc3 ZgO rfl ZgP (rs := [.tmp 4]) (by rw [ZgQ]) (by simp only [List.length_cons, List.length_nil, Nat.reduceAdd, Nat.reduceSub, List.replicate_succ, List.replicate_zero, List.cons_append, List.nil_append]; exact rfl) ?_
  refine ARun.seq (ARun.region ?_)
  refine y_new rfl (n_box rfl rfl rfl) ?_
  refine y_new rfl (n_box rfl rfl rfl) ?_
  refine y_op rfl (Zaa rfl) ?_
  refine AOps.nil (ARun.seq (ARun.region ?_))
  refine y_op rfl (Zcf rfl) ?_
  refine y_op rfl (Zaa rfl) ?_
  refine AOps.nil ?_
  refine ARun.ret ?_
  refine ⟨_, _, _, .tmp rfl .nil, .cons (.same _) .nil, ?_⟩
  exact ⟨rfl, rfl⟩
abbrev HD (c b : Nat) (ps : Array Tmp) (asg bd : Code) (envL : List D) (st : LSt) (o0 : Option AObj) (T : Heap) : Heap := o0 :: some ⟨[numD c], ZdI, 1, true, none⟩ :: some ⟨[.int .i64 (b : Int)], t_int, 1, true, none⟩ :: defsO :: loopO st ps asg bd envL :: T
theorem ZkP (a b : Nat) (ha : (lim a).length ≤ 1024) (hb2 : 2 ≤ b) (hb36 : b ≤ 36) (ps : List Tmp) (hps : ps.length = 1) (asg bd : Code) (envL : List D) (R : Nat → Option AObj → Heap → Prop)
    (hround : ∀ (k c d : Nat) (o0 : Option AObj) (T : Heap), (dgs b a)[k]? = some d → R k o0 T → ARun C (QRound 4 (fun j H' => j = none ∧ ∃ o0' T', R (k + 1) o0' T' ∧ H' = HD c b ps.toArray asg bd envL .busy o0' T')) [.code asg, .beginRound, .code bd] (setL envL (ps.zip [.int .i64 (d : Int)])) (HD c b ps.toArray asg bd envL .ready o0 T) [])
    (o0 : Option AObj) (T : Heap) (h0 : R 0 o0 T) :
    HC C Zcz (HD a b ps.toArray asg bd envL .ready o0 T) [.yld 4, .ptr 2 0, .ptr 1 0] (fun o H' => o = .ret (.tup []) ∧ ∃ o0' T', R (dgs b a).length o0' T' ∧ H' = HD 0 b ps.toArray asg bd envL .ready o0' T') := by
  obtain ⟨m, hm0, hm1, hm2⟩ := chk_ex b hb2 (by omega)
  have hp0 : 0 < b ^ m := Nat.pow_pos (by omega)
  refine HC.run Zca ZeD rfl ZeE (rs := []) (by rw [ZeF]) (by simp only [List.length_cons, List.length_nil, Nat.reduceAdd, Nat.reduceSub, List.replicate_succ, List.replicate_zero, List.cons_append, List.nil_append]; exact rfl) ?_
  refine ARun.seq (ARun.region ?_)
  refine y_op rfl (Zai rfl rfl rfl rfl rfl) ?_
  refine y_op rfl (q_call rfl rfl (ZlD b m hb2 hb36 hm0 hm1 hm2)) ?_
  refine y_op rfl (q_move rfl) ?_
  refine y_op rfl (Zab rfl rfl) ?_
  refine y_op rfl (Zab rfl rfl) ?_
  refine y_op rfl (Zaa rfl) ?_
  refine y_op rfl (Zaa rfl) ?_
  refine AOps.nil (ARun.block ?_)
  refine ARun.loopI (S := Nat × Nat × Option AObj × Heap) (fun σ : Nat × Nat × Option AObj × Heap => [(6, .any), (7, .any), (8, .any), (9, .any), (10, .any), (16, .any), (17, .any), (18, .any), (19, .any), (20, .any), (21, .any), (22, .any), (23, .any), (24, .any), (25, .any), (26, .any), (27, .any), (28, .any), (29, .any), (30, .any), (31, .any), (32, .any), (33, .any), (34, .any), (35, .any), (36, .any), (37, .any), (38, .any), (39, .any), (40, .any), (41, .any), (42, .any), (43, .any), (44, .any), (45, .any), (46, .any), (47, .any), (48, .any), (49, .any), (50, .any), (51, .any), (52, .any), (53, .any), (54, .any), (55, .any), (56, .any), (57, .any), (58, .any), (59, .any), (60, .any), (61, .any), (4, .int .u32 ((b ^ m : Nat) : Int)), (5, .int .i64 (m : Int))]) (fun σ : Nat × Nat × Option AObj × Heap => HD σ.1 b ps.toArray asg bd envL .ready σ.2.2.1 σ.2.2.2) (fun σ : Nat × Nat × Option AObj × Heap => σ.1 ≤ a ∧ R σ.2.1 σ.2.2.1 σ.2.2.2 ∧ σ.2.1 ≤ (dgs b a).length ∧ (dgs b a).drop σ.2.1 = dgs b σ.1) (fun σ : Nat × Nat × Option AObj × Heap => σ.1) ((a, 0, o0, T)) ?_ ?_ ?_ ?_
  · exact ⟨Nat.le_refl _, h0, Nat.zero_le _, rfl⟩
  · (repeat' first | exact envLe_nil | apply envLe_any | apply envLe_same)
  · rfl
  rintro ⟨c, k, o0, T⟩ hinv ih
  dsimp only at hinv ih ⊢
  obtain ⟨hca, hR, hk, hdr⟩ := hinv
  refine ARun.seq (ARun.seq (ARun.region ?_))
  refine y_op rfl (Zai rfl rfl rfl rfl rfl) ?_
  refine y_op rfl (Zaf rfl rfl) ?_
  refine y_op rfl (q_int rfl rfl rfl) ?_
  refine AOps.nil ?_
  refine ARun.ite rfl (fun h => ?_) (fun h => ?_)
  · skip
    have hc0 : 0 < c := Nat.pos_of_ne_zero (ln_pos.1 (by omega))
    have fc : (lim c).length ≤ 1024 := Nat.le_trans (ln_mono hca) ha
    have hres : resD (lim c) (lim (b ^ m)) = (c / b ^ m, c % b ^ m, 0) := by
      unfold resD
      have hl : (lim (b ^ m)).length = 1 := by rw [lim_pos (by omega), show b ^ m / B = 0 from Nat.div_eq_of_lt hm1, lim_zero]; rfl
      rw [okB_lim fc, okB_lim (by omega), val_lim, val_lim]
      simp only [Bool.and_self, cond_true, hl, if_neg (show ¬ (1 : Nat) = 0 by decide)]
    have hdiv : PC C Zea [numD c, .sl 1 [.int .u32 ((b ^ m : Nat) : Int)]] (fun o => o = .ret (.tup [numD (c / b ^ m), numD (c % b ^ m), .int .i64 0])) := by
      rw [numD_small hp0 hm1]
      exact (ZeT (lim c) (lim (b ^ m)) (U32_lim _) (U32_lim _)).mono fun o ho => by rw [ho, hres]
    refine ARun.skip (ARun.block (ARun.seq (ARun.region ?_)))
    refine y_op rfl (Zai rfl rfl rfl rfl rfl) ?_
    refine y_op rfl (q_move rfl) ?_
    refine y_op rfl (Zan rfl rfl rfl rfl rfl rfl rfl rfl rfl rfl rfl (by decide) (by decide) rfl) ?_
    refine y_op rfl (q_call rfl rfl (hdiv)) ?_
    refine y_op rfl (q_move rfl) ?_
    refine y_op rfl (Zab rfl rfl) ?_
    refine y_op rfl (Zab rfl rfl) ?_
    refine y_op rfl (Zab rfl rfl) ?_
    refine y_op rfl (Zaa rfl) ?_
    refine y_op rfl (Zaa rfl) ?_
    refine y_op rfl (Zaa rfl) ?_
    refine AOps.nil (ARun.seq (ARun.region ?_))
    refine y_op rfl (q_move rfl) ?_
    refine y_op rfl (q_int rfl rfl rfl) ?_
    refine y_op rfl (q_move rfl) ?_
    refine y_gop rfl (g_call rfl rfl (PC.gp (ZaV _ 0))) (fun hg => ?_) (fun q hq => by obtain ⟨hq, rfl⟩ := hq; cases hq)
    refine AOps.nil (ARun.seq (ARun.region ?_))
    refine y_op rfl (q_move rfl) ?_
    refine y_new rfl (Zah rfl rfl rfl rfl rfl rfl (Nat.le_of_ble_eq_true rfl) rfl) ?_
    refine AOps.nil (ARun.seq (ARun.region ?_))
    refine y_op rfl (Zaa rfl) ?_
    refine AOps.nil (ARun.seq (ARun.seq (ARun.region ?_)))
    refine y_op rfl (q_move rfl) ?_
    refine y_op rfl (Zaf rfl rfl) ?_
    refine y_op rfl (q_int rfl rfl rfl) ?_
    refine AOps.nil ?_
    refine ARun.join (S := Nat) (fun r : Nat => [(35, .any), (36, .any), (37, .any), (38, .any), (9, .int .i64 (r : Int))]) (fun r : Nat => r = c % b ^ m) (fun run => ?_) ?_
    · skip
      refine ARun.ite rfl (fun h2 => ?_) (fun h2 => ?_)
      · skip
        have hrl : c % b ^ m < 4294967296 := Nat.lt_trans (Nat.mod_lt _ hp0) hm1
        have hg : dig (c % b ^ m) 0 = c % b ^ m := by rw [dig, Nat.pow_zero, Nat.div_one]; exact Nat.mod_eq_of_lt (Nat.lt_of_lt_of_le (Nat.mod_lt _ hp0) (show b ^ m ≤ B from Nat.le_of_lt hm1))
        refine ARun.region ?_
        refine y_op rfl (q_move rfl) ?_
        refine y_op rfl (Zak (i := 0) rfl rfl rfl rfl (by omega) (by omega) (nts_ne (by omega)) (drop_nat rfl)) ?_
        refine y_op rfl (q_load rfl rfl rfl (lim_load (i := 0) (by omega))) ?_
        rw [hg]
        refine y_op rfl (q_conv rfl rfl rfl (nconv_i64 (by omega))) ?_
        refine y_op rfl (Zaa rfl) ?_
        refine AOps.nil ?_
        exact ARun.again (run ((c % b ^ m)) (rfl)) (by (repeat' first | exact envLe_nil | apply envLe_any | apply envLe_same)) rfl
      · skip
        have hr0 : c % b ^ m = 0 := by
          apply Classical.byContradiction
          intro hn
          have := ln_pos.2 hn
          omega
        refine ARun.skip ?_
        exact ARun.again (run (0) (hr0.symm)) (by (repeat' first | exact envLe_nil | apply envLe_any | apply envLe_same)) rfl
    · rintro r hj
      try dsimp only at hj ⊢
      subst hj
      refine ARun.seq (ARun.region ?_)
      refine y_op rfl (Zaa rfl) ?_
      refine AOps.nil (ARun.block ?_)
      refine ARun.loopI (S := Nat × Nat × Nat × Option AObj × Heap) (fun σ : Nat × Nat × Nat × Option AObj × Heap => [(39, .any), (40, .any), (41, .any), (42, .any), (43, .any), (44, .any), (45, .any), (46, .any), (47, .any), (48, .any), (49, .any), (50, .any), (51, .any), (52, .any), (53, .any), (54, .any), (55, .any), (56, .any), (57, .any), (58, .any), (59, .any), (60, .any), (61, .any), (9, .int .i64 (σ.2.1 : Int)), (10, .int .i64 (σ.1 : Int))]) (fun σ : Nat × Nat × Nat × Option AObj × Heap => HD (c / b ^ m) b ps.toArray asg bd envL .ready σ.2.2.2.1 σ.2.2.2.2) (fun σ : Nat × Nat × Nat × Option AObj × Heap => σ.1 ≤ m ∧ σ.2.1 < b ^ (m - σ.1) ∧ R σ.2.2.1 σ.2.2.2.1 σ.2.2.2.2 ∧ σ.2.2.1 ≤ (dgs b a).length ∧ (dgs b a).drop σ.2.2.1 = dgs b (σ.2.1 + c / b ^ m * b ^ (m - σ.1))) (fun σ : Nat × Nat × Nat × Option AObj × Heap => m - σ.1) ((0, c % b ^ m, k, o0, T)) ?_ ?_ ?_ ?_
      · exact ⟨Nat.zero_le _, Nat.mod_lt _ hp0, hR, hk, by dsimp only; rw [hdr, Nat.sub_zero, Nat.mul_comm, Nat.mod_add_div]⟩
      · (repeat' first | exact envLe_nil | apply envLe_any | apply envLe_same)
      · rfl
      rintro ⟨i, n, k, o0, T⟩ hinv2 ih2
      dsimp only at hinv2 ih2 ⊢
      obtain ⟨him, hnb, hR2, hk2, hdr2⟩ := hinv2
      have hml : m < 64 := chk_lt hb2 hm1
      have hnb2 : n < 4294967296 := Nat.lt_of_lt_of_le hnb (Nat.le_trans (Nat.pow_le_pow_right (by omega) (Nat.sub_le m i)) (by omega))
      have hpi : 0 < b ^ (m - i) := Nat.pow_pos (by omega)
      refine ARun.seq (ARun.seq (ARun.region ?_))
      refine y_op rfl (q_move rfl) ?_
      refine y_op rfl (q_move rfl) ?_
      refine y_op rfl (q_int rfl rfl rfl) ?_
      refine y_op rfl (q_move rfl) ?_
      refine AOps.bool 42 rfl (fun h3 => ?_) (fun h3 => ?_)
      · skip
        have h3i : i < m := by have := of_decide_eq_true h3; omega
        refine y_op rfl (q_move rfl) ?_
        refine y_op rfl (q_int rfl rfl rfl) ?_
        refine y_op rfl (q_move rfl) ?_
        refine AOps.bool 45 rfl (fun h4 => ?_) (fun h4 => ?_)
        · skip
          have h4 := of_decide_eq_true h4
          refine y_skip rfl ?_
          refine y_skip rfl ?_
          refine y_skip rfl ?_
          refine y_op rfl (q_pick rfl rfl rfl rfl) ?_
          refine y_op rfl (q_pick rfl rfl rfl rfl) ?_
          refine AOps.nil ?_
          have hV0 : 0 < n + c / b ^ m * b ^ (m - i) := by omega
          have hd := hdr2
          rw [dgs_pos hb2 hV0, digN (n := n) (q := c / b ^ m) (b := b) (show i < m from h3i)] at hd
          obtain ⟨hd1, hd2, hd3⟩ := drop_get' hd
          rw [show n + c / b ^ m * b ^ (m - i) = n + c / b ^ m * b ^ (m - (i + 1) + 1) by rw [show m - (i + 1) + 1 = m - i by omega], divN (by omega)] at hd3
          refine ARun.condT rfl ?_
          refine ARun.skip (ARun.seq (ARun.block (ARun.seq (ARun.seq (ARun.region ?_)))))
          refine y_op rfl (q_move rfl) ?_
          refine y_op rfl (q_move rfl) ?_
          refine y_op rfl (Zai rfl rfl rfl rfl rfl) ?_
          refine y_op rfl (q_rem rfl rfl (by omega) (nrem rfl)) ?_
          refine AOps.yieldI _ rfl rfl rfl rfl (by rw [hps]; rfl) rfl (hround k (c / b ^ m) (n % b) o0 T hd2 hR2) ?_ ?_ ?_
          · rintro q H' ⟨_, o0', T', _, rfl⟩; rfl
          · skip
            rintro _ ⟨_, o0', T', hR3, rfl⟩
            refine AOps.hp (H' := HD (c / b ^ m) b ps.toArray asg bd envL .ready o0' T') rfl ?_
            refine y_op rfl (q_not rfl) ?_
            refine AOps.nil ?_
            refine ARun.condF rfl ?_
            refine ARun.skip (ARun.region ?_)
            refine y_op rfl (q_move rfl) ?_
            refine y_op rfl (Zai rfl rfl rfl rfl rfl) ?_
            refine y_op rfl (q_quo rfl rfl (by omega) (nquo_i64 rfl (by omega))) ?_
            refine y_op rfl (Zaa rfl) ?_
            refine AOps.nil (ARun.inBlock (ARun.region ?_))
            refine y_op rfl (q_move rfl) ?_
            refine y_op rfl (q_add rfl rfl (nadd1_i64 (by omega))) ?_
            refine y_op rfl (Zaa rfl) ?_
            refine AOps.nil ?_
            refine ARun.again (ih2 ((i + 1, n / b, k + 1, o0', T')) ?_ ?_) ?_ ?_
            · exact ⟨by dsimp only; omega, Nat.div_lt_of_lt_mul (by rw [Nat.mul_comm, ← Nat.pow_succ, show (m - (i + 1)).succ = m - i by omega]; exact hnb), hR3, by dsimp only; omega, hd3⟩
            · (dsimp only; omega)
            · (repeat' first | exact envLe_nil | apply envLe_any | apply envLe_same)
            · rfl
          · skip
            rintro _ _ ⟨h, _⟩
            cases h
        · skip
          have h4 := of_decide_eq_false h4
          have hn0 : n = 0 := by omega
          refine y_op rfl (Zai rfl rfl rfl rfl rfl) ?_
          refine y_op rfl (Zaf rfl rfl) ?_
          refine y_op rfl (q_int rfl rfl rfl) ?_
          refine y_op rfl (q_pick rfl rfl rfl rfl) ?_
          refine y_op rfl (q_pick rfl rfl rfl rfl) ?_
          refine AOps.nil ?_
          refine ARun.cond rfl (fun h5 => ?_) (fun h5 => ?_)
          · skip
            have h5 := of_decide_eq_true h5
            have hq0 : 0 < c / b ^ m := Nat.pos_of_ne_zero (ln_pos.1 (by omega))
            have hV0 : 0 < n + c / b ^ m * b ^ (m - i) := by have := Nat.mul_pos hq0 hpi; omega
            have hd := hdr2
            rw [dgs_pos hb2 hV0, digN (n := n) (q := c / b ^ m) (b := b) (show i < m from h3i)] at hd
            obtain ⟨hd1, hd2, hd3⟩ := drop_get' hd
            rw [show n + c / b ^ m * b ^ (m - i) = n + c / b ^ m * b ^ (m - (i + 1) + 1) by rw [show m - (i + 1) + 1 = m - i by omega], divN (by omega)] at hd3
            refine ARun.skip (ARun.seq (ARun.block (ARun.seq (ARun.seq (ARun.region ?_)))))
            refine y_op rfl (q_move rfl) ?_
            refine y_op rfl (q_move rfl) ?_
            refine y_op rfl (Zai rfl rfl rfl rfl rfl) ?_
            refine y_op rfl (q_rem rfl rfl (by omega) (nrem rfl)) ?_
            refine AOps.yieldI _ rfl rfl rfl rfl (by rw [hps]; rfl) rfl (hround k (c / b ^ m) (n % b) o0 T hd2 hR2) ?_ ?_ ?_
            · rintro q H' ⟨_, o0', T', _, rfl⟩; rfl
            · skip
              rintro _ ⟨_, o0', T', hR3, rfl⟩
              refine AOps.hp (H' := HD (c / b ^ m) b ps.toArray asg bd envL .ready o0' T') rfl ?_
              refine y_op rfl (q_not rfl) ?_
              refine AOps.nil ?_
              refine ARun.condF rfl ?_
              refine ARun.skip (ARun.region ?_)
              refine y_op rfl (q_move rfl) ?_
              refine y_op rfl (Zai rfl rfl rfl rfl rfl) ?_
              refine y_op rfl (q_quo rfl rfl (by omega) (nquo_i64 rfl (by omega))) ?_
              refine y_op rfl (Zaa rfl) ?_
              refine AOps.nil (ARun.inBlock (ARun.region ?_))
              refine y_op rfl (q_move rfl) ?_
              refine y_op rfl (q_add rfl rfl (nadd1_i64 (by omega))) ?_
              refine y_op rfl (Zaa rfl) ?_
              refine AOps.nil ?_
              refine ARun.again (ih2 ((i + 1, n / b, k + 1, o0', T')) ?_ ?_) ?_ ?_
              · exact ⟨by dsimp only; omega, Nat.div_lt_of_lt_mul (by rw [Nat.mul_comm, ← Nat.pow_succ, show (m - (i + 1)).succ = m - i by omega]; exact hnb), hR3, by dsimp only; omega, hd3⟩
              · (dsimp only; omega)
              · (repeat' first | exact envLe_nil | apply envLe_any | apply envLe_same)
              · rfl
            · skip
              rintro _ _ ⟨h, _⟩
              cases h
          · skip
            have h5 := of_decide_eq_false h5
            have hq0 : c / b ^ m = 0 := by
              apply Classical.byContradiction
              intro hn
              have := ln_pos.2 hn
              omega
            refine ARun.exit rfl ?_
            refine ARun.inBlock ?_
            refine ARun.again (ih ((c / b ^ m, k, o0, T)) ?_ ?_) ?_ ?_
            · exact ⟨Nat.le_trans (Nat.div_le_self _ _) hca, hR2, hk2, by rw [hdr2, hn0, hq0, Nat.zero_mul]⟩
            · exact Nat.div_lt_self hc0 (one_lt_pow hb2 hm0)
            · (repeat' first | exact envLe_nil | apply envLe_any | apply envLe_same)
            · rfl
      · skip
        have h3i : i = m := by have := of_decide_eq_false h3; omega
        have hn0 : n = 0 := by rw [h3i, Nat.sub_self, Nat.pow_zero] at hnb; omega
        refine y_skip rfl ?_
        refine y_skip rfl ?_
        refine y_skip rfl ?_
        refine y_skip rfl ?_
        refine y_skip rfl ?_
        refine y_skip rfl ?_
        refine y_skip rfl ?_
        refine y_op rfl (q_pick rfl rfl rfl rfl) ?_
        refine AOps.nil ?_
        refine ARun.condF rfl ?_
        refine ARun.exit rfl ?_
        refine ARun.inBlock ?_
        refine ARun.again (ih ((c / b ^ m, k, o0, T)) ?_ ?_) ?_ ?_
        · exact ⟨Nat.le_trans (Nat.div_le_self _ _) hca, hR2, hk2, by rw [hdr2, hn0, h3i, Nat.sub_self, Nat.pow_zero, Nat.mul_one, Nat.zero_add]⟩
        · exact Nat.div_lt_self hc0 (one_lt_pow hb2 hm0)
        · (repeat' first | exact envLe_nil | apply envLe_any | apply envLe_same)
        · rfl
  · skip
    have hc0 : c = 0 := by
      apply Classical.byContradiction
      intro hn
      have := ln_pos.2 hn
      omega
    subst hc0
    refine ARun.exit rfl ?_
    refine ARun.nil ?_
    refine ⟨_, _, _, .nil, .nil, ?_⟩
    rw [dgs_zero] at hdr
    have : (dgs b a).length ≤ k := by
      rcases Nat.lt_or_ge k (dgs b a).length with h1 | h1
      · rw [List.drop_eq_getElem_cons h1] at hdr; cases hdr
      · exact h1
    have hk2 : k = (dgs b a).length := by omega
    subst hk2
    exact ⟨rfl, _, _, hR, rfl⟩
end Go.V
/- Go's strings.Builder (Grow, WriteString, WriteByte, String): the library's contracts, laid at this seat's numbers. -/
namespace Go.V
open Go.Shelf Go.RowKit Go.Proofs
def bRen165 : Ren := ⟨fun | 165 => 196 | 240 => 225 | 241 => 226 | 276 => 242 | 277 => 243 | n => n, fun | 0 => 0 | 3 => 3 | 4 => 4 | 5 => 5 | 9 => 9 | 20 => 20 | 37 => 197 | 70 => 202 | 72 => 204 | 75 => 207 | 80 => 211 | 119 => 208 | 127 => 238 | 164 => 251 | n => n, fun n => n⟩
theorem bLay165 : Lays.n165 Tryz.prog bRen165 := {
  mixed := by kernel_rfl
  f165 := Tryz.func196.trans (congrArg some (by kernel_rfl))
  f240 := Tryz.func225.trans (congrArg some (by kernel_rfl))
  f241 := Tryz.func226.trans (congrArg some (by kernel_rfl))
  f276 := Tryz.func242.trans (congrArg some (by kernel_rfl))
  f277 := Tryz.func243.trans (congrArg some (by kernel_rfl))
  t0 := Tryz.underlying0
  a0 := Tryz.isAgg0
  z0 := Tryz.sizeOf0
  v0 := Tryz.zeroValue0
  t3 := Tryz.underlying3
  a3 := Tryz.isAgg3
  z3 := Tryz.sizeOf3
  v3 := Tryz.zeroValue3
  t4 := Tryz.underlying4
  a4 := Tryz.isAgg4
  z4 := Tryz.sizeOf4
  v4 := Tryz.zeroValue4
  t9 := Tryz.underlying9
  a9 := Tryz.isAgg9
  z9 := Tryz.sizeOf9
  v9 := Tryz.zeroValue9
  t20 := Tryz.underlying20
  a20 := Tryz.isAgg20
  z20 := Tryz.sizeOf20
  v20 := Tryz.zeroValue20
  t37 := Tryz.underlying197
  a37 := Tryz.isAgg197
  z37 := Tryz.sizeOf197
  v37 := Tryz.zeroValue197
  t70 := Tryz.underlying202
  a70 := Tryz.isAgg202
  z70 := Tryz.sizeOf202
  v70 := Tryz.zeroValue202
  t72 := Tryz.underlying204
  a72 := Tryz.isAgg204
  z72 := Tryz.sizeOf204
  v72 := Tryz.zeroValue204
  t164 := Tryz.underlying251
  a164 := Tryz.isAgg251
  z164 := Tryz.sizeOf251
  v164 := Tryz.zeroValue251 }
theorem bX165 : Builder.Extra Tryz.prog bRen165 := { sizeBuilder := by kernel_rfl, liesBuilder := by kernel_rfl, t5 := Tryz.underlying5, a5 := Tryz.isAgg5, z5 := Tryz.sizeOf5, v5 := Tryz.zeroValue5, infoByte := by kernel_rfl, cellsByte := by kernel_rfl, sizeByte := by kernel_rfl, neB5 := by decide }
def bRen166 : Ren := ⟨fun | 166 => 197 | 240 => 225 | 276 => 242 | n => n, fun | 0 => 0 | 3 => 3 | 4 => 4 | 5 => 5 | 9 => 9 | 20 => 20 | 37 => 197 | 70 => 202 | 72 => 204 | 75 => 207 | 80 => 211 | 119 => 208 | 127 => 238 | 164 => 251 | n => n, fun n => n⟩
theorem bLay166 : Lays.n166 Tryz.prog bRen166 := {
  mixed := by kernel_rfl
  f166 := Tryz.func197.trans (congrArg some (by kernel_rfl))
  f240 := Tryz.func225.trans (congrArg some (by kernel_rfl))
  f276 := Tryz.func242.trans (congrArg some (by kernel_rfl))
  t0 := Tryz.underlying0
  a0 := Tryz.isAgg0
  z0 := Tryz.sizeOf0
  v0 := Tryz.zeroValue0
  t3 := Tryz.underlying3
  a3 := Tryz.isAgg3
  z3 := Tryz.sizeOf3
  v3 := Tryz.zeroValue3
  t4 := Tryz.underlying4
  a4 := Tryz.isAgg4
  z4 := Tryz.sizeOf4
  v4 := Tryz.zeroValue4
  t9 := Tryz.underlying9
  a9 := Tryz.isAgg9
  z9 := Tryz.sizeOf9
  v9 := Tryz.zeroValue9
  t20 := Tryz.underlying20
  a20 := Tryz.isAgg20
  z20 := Tryz.sizeOf20
  v20 := Tryz.zeroValue20
  t37 := Tryz.underlying197
  a37 := Tryz.isAgg197
  z37 := Tryz.sizeOf197
  v37 := Tryz.zeroValue197
  t70 := Tryz.underlying202
  a70 := Tryz.isAgg202
  z70 := Tryz.sizeOf202
  v70 := Tryz.zeroValue202
  t72 := Tryz.underlying204
  a72 := Tryz.isAgg204
  z72 := Tryz.sizeOf204
  v72 := Tryz.zeroValue204
  t75 := Tryz.underlying207
  a75 := Tryz.isAgg207
  z75 := Tryz.sizeOf207
  v75 := Tryz.zeroValue207
  t164 := Tryz.underlying251
  a164 := Tryz.isAgg251
  z164 := Tryz.sizeOf251
  v164 := Tryz.zeroValue251 }
theorem bX166 : Builder.Extra Tryz.prog bRen166 := { sizeBuilder := by kernel_rfl, liesBuilder := by kernel_rfl, t5 := Tryz.underlying5, a5 := Tryz.isAgg5, z5 := Tryz.sizeOf5, v5 := Tryz.zeroValue5, infoByte := by kernel_rfl, cellsByte := by kernel_rfl, sizeByte := by kernel_rfl, neB5 := by decide }
def bRen167 : Ren := ⟨fun | 167 => 198 | 240 => 225 | 276 => 242 | n => n, fun | 0 => 0 | 3 => 3 | 4 => 4 | 5 => 5 | 9 => 9 | 20 => 20 | 37 => 197 | 70 => 202 | 72 => 204 | 75 => 207 | 80 => 211 | 119 => 208 | 127 => 238 | 164 => 251 | n => n, fun n => n⟩
theorem bLay167 : Lays.n167 Tryz.prog bRen167 := {
  mixed := by kernel_rfl
  f167 := Tryz.func198.trans (congrArg some (by kernel_rfl))
  f240 := Tryz.func225.trans (congrArg some (by kernel_rfl))
  f276 := Tryz.func242.trans (congrArg some (by kernel_rfl))
  t0 := Tryz.underlying0
  a0 := Tryz.isAgg0
  z0 := Tryz.sizeOf0
  v0 := Tryz.zeroValue0
  t4 := Tryz.underlying4
  a4 := Tryz.isAgg4
  z4 := Tryz.sizeOf4
  v4 := Tryz.zeroValue4
  t5 := Tryz.underlying5
  a5 := Tryz.isAgg5
  z5 := Tryz.sizeOf5
  v5 := Tryz.zeroValue5
  t9 := Tryz.underlying9
  a9 := Tryz.isAgg9
  z9 := Tryz.sizeOf9
  v9 := Tryz.zeroValue9
  t20 := Tryz.underlying20
  a20 := Tryz.isAgg20
  z20 := Tryz.sizeOf20
  v20 := Tryz.zeroValue20
  t37 := Tryz.underlying197
  a37 := Tryz.isAgg197
  z37 := Tryz.sizeOf197
  v37 := Tryz.zeroValue197
  t70 := Tryz.underlying202
  a70 := Tryz.isAgg202
  z70 := Tryz.sizeOf202
  v70 := Tryz.zeroValue202
  t72 := Tryz.underlying204
  a72 := Tryz.isAgg204
  z72 := Tryz.sizeOf204
  v72 := Tryz.zeroValue204
  t75 := Tryz.underlying207
  a75 := Tryz.isAgg207
  z75 := Tryz.sizeOf207
  v75 := Tryz.zeroValue207
  t164 := Tryz.underlying251
  a164 := Tryz.isAgg251
  z164 := Tryz.sizeOf251
  v164 := Tryz.zeroValue251 }
theorem bX167 : Builder.Extra Tryz.prog bRen167 := { sizeBuilder := by kernel_rfl, liesBuilder := by kernel_rfl, t5 := Tryz.underlying5, a5 := Tryz.isAgg5, z5 := Tryz.sizeOf5, v5 := Tryz.zeroValue5, infoByte := by kernel_rfl, cellsByte := by kernel_rfl, sizeByte := by kernel_rfl, neB5 := by decide }
def bRen169 : Ren := ⟨fun | 169 => 199 | n => n, fun | 0 => 0 | 3 => 3 | 4 => 4 | 5 => 5 | 9 => 9 | 20 => 20 | 37 => 197 | 70 => 202 | 72 => 204 | 75 => 207 | 80 => 211 | 119 => 208 | 127 => 238 | 164 => 251 | n => n, fun n => n⟩
theorem bLay169 : Lays.n169 Tryz.prog bRen169 := {
  mixed := by kernel_rfl
  f169 := Tryz.func199.trans (congrArg some (by kernel_rfl))
  t0 := Tryz.underlying0
  a0 := Tryz.isAgg0
  z0 := Tryz.sizeOf0
  v0 := Tryz.zeroValue0
  t3 := Tryz.underlying3
  a3 := Tryz.isAgg3
  z3 := Tryz.sizeOf3
  v3 := Tryz.zeroValue3
  t9 := Tryz.underlying9
  a9 := Tryz.isAgg9
  z9 := Tryz.sizeOf9
  v9 := Tryz.zeroValue9
  t37 := Tryz.underlying197
  a37 := Tryz.isAgg197
  z37 := Tryz.sizeOf197
  v37 := Tryz.zeroValue197
  t70 := Tryz.underlying202
  a70 := Tryz.isAgg202
  z70 := Tryz.sizeOf202
  v70 := Tryz.zeroValue202
  t72 := Tryz.underlying204
  a72 := Tryz.isAgg204
  z72 := Tryz.sizeOf204
  v72 := Tryz.zeroValue204
  t127 := Tryz.underlying238
  a127 := Tryz.isAgg238
  z127 := Tryz.sizeOf238
  v127 := Tryz.zeroValue238 }
theorem bX169 : Builder.Extra Tryz.prog bRen169 := { sizeBuilder := by kernel_rfl, liesBuilder := by kernel_rfl, t5 := Tryz.underlying5, a5 := Tryz.isAgg5, z5 := Tryz.sizeOf5, v5 := Tryz.zeroValue5, infoByte := by kernel_rfl, cellsByte := by kernel_rfl, sizeByte := by kernel_rfl, neB5 := by decide }
end Go.V
/- strings.ToUpper on text below 128: a walk over its code, by the Builder's contracts. -/
namespace Go.V
open Go.Shelf Go.RowKit Go.Proofs
theorem hidU {p : Prop} (h : p) : Hid p := h
abbrev IsB (b : Nat) (l : List Value) (w : World) : Prop := Lib.IsBuilder 204 5 b b l w
abbrev upTo (s : ByteArray) (p : Nat) : List Value := Lib.byteCells ((s.data.toList.take p).map Lib.upperB)
theorem upTo_length (s : ByteArray) (p : Nat) (h : p ≤ s.size) : (upTo s p).length = p := by
  rw [Lib.byteCells_length, List.length_map, List.length_take, ← Lib.size_eq]; omega
theorem extract_len (s : ByteArray) (p k : Nat) (h : k ≤ s.size) : (s.extract p k).size = k - p := by
  rw [Lib.size_eq, Lib.extract_data, List.length_take, List.length_drop, ← Lib.size_eq]; omega
theorem at_get (s : ByteArray) (k : Nat) (h : k < s.size) : s.data.toList[k]? = some (s[k]'h) := by
  rw [Array.getElem?_toList]; exact Array.getElem?_eq_getElem h
theorem upTo_step (s : ByteArray) (p k : Nat) (hpk : p ≤ k) (hk : k < s.size) (hn : ((s.data.toList.drop p).take (k - p)).any Lib.isLowerB = false) (hl : Lib.isLowerB (s[k]'hk) = true) :
    upTo s p ++ Lib.strCells (s.extract p k) ++ [Value.int .u8 (((s[k]'hk).toNat : Int) - 32)] = upTo s (k + 1) := by
  unfold upTo
  rw [← Lib.map_stretch Lib.upperB Lib.isLowerB Lib.upperB_of_not s.data.toList p k _ hpk (at_get s k hk) hn, Lib.byteCells_append, Lib.byteCells_append, Lib.strCells_eq, Lib.extract_data, ← Lib.upperB_int _ hl]
  rfl
theorem upTo_end (s : ByteArray) (p : Nat) (hp : p ≤ s.size) (hn : ((s.data.toList.drop p).take (s.size - p)).any Lib.isLowerB = false) :
    upTo s p ++ Lib.strCells (s.extract p s.size) = Lib.byteCells (s.data.toList.map Lib.upperB) := by
  have hfull : (s.data.toList.drop p).take (s.size - p) = s.data.toList.drop p := List.take_of_length_le (by rw [List.length_drop, ← Lib.size_eq]; omega)
  rw [hfull] at hn
  unfold upTo
  rw [← Lib.map_rest Lib.upperB Lib.isLowerB Lib.upperB_of_not s.data.toList p hn, Lib.byteCells_append, Lib.strCells_eq, Lib.extract_data, hfull]
theorem noneUp (s : ByteArray) (p k : Nat) (hpk : p ≤ k) (hk : k < s.size) (hn : ((s.data.toList.drop p).take (k - p)).any Lib.isLowerB = false) (hl : Lib.isLowerB (s[k]'hk) = false) :
    ((s.data.toList.drop p).take (k + 1 - p)).any Lib.isLowerB = false := by
  have e2 : (s.data.toList.drop p)[k - p]? = some (s[k]'hk) := by
    rw [List.getElem?_drop, show p + (k - p) = k by omega]
    exact at_get s k hk
  rw [show k + 1 - p = (k - p) + 1 by omega, Lib.any_take_succ _ _ _ _ e2, hn, hl]
  rfl
theorem strNil (s : ByteArray) (p : Nat) (h : p ≤ s.size) : Lib.strCells (s.extract p p) = [] := List.eq_nil_of_length_eq_zero (by rw [Lib.strCells_length, extract_len s p p h]; omega)
set_option maxHeartbeats 4000000 in
set_option maxRecDepth 100000 in
theorem toUpper_calls (s : ByteArray) (w : World) (hs : s.size ≤ 140737488355328) (hascii : ∀ (j : Nat) (b : UInt8), s.data.toList[j]? = some b → b.toNat < 128) :
    Calls Tryz.prog 124 #[.string s] w fun e w' => e = .returned (.string ⟨(Lib.toUpperA s.data.toList).toArray⟩) ∧ Below w.heap.size w w' := by
  have HA := hidU hascii
  clear hascii
  go_enter Tryz.func124, Tryz.ntmps124
  go_wp2
  go_loop [3, 4, 5] (fun a h i => ∃ k : Nat, k ≤ s.size ∧ a = .bool true ∧ h = .bool ((s.data.toList.take k).any Lib.isLowerB) ∧ i = .int .i64 k) (fun _ _ i => s.size - (intOf i).toNat)
  case atStart => exact ⟨0, Nat.zero_le _, rfl, rfl, rfl⟩
  case round =>
    obtain ⟨k, hk, rfl, rfl, rfl⟩ := hrel
    generalize hH : (s.data.toList.take k).any Lib.isLowerB = H
    by_cases hlt : k < s.size
    · have hb := at_get s k hlt
      have h128 : ¬ (128 : Int) ≤ ((s[k]'hlt).toNat : Int) := by have := HA.out k _ hb; omega
      have Hn := hidU (show (s.data.toList.take (k + 1)).any Lib.isLowerB = (H || (decide ((97 : Int) ≤ ((s[k]'hlt).toNat : Int)) && decide (((s[k]'hlt).toNat : Int) ≤ 122))) by rw [Lib.any_take_succ _ _ _ _ hb, hH, Lib.isLowerB_int])
      clear hb hH
      go_wp2
      all_goals (
        refine ⟨⟨k + 1, by omega, rfl, ?_, by go_num⟩, by simp [intOf]; omega⟩
        rw [Hn.out]
        first
          | (simp_all; done)
          | (simp_all; omega))
    · have hke : k = s.size := by omega
      subst hke
      rw [show s.data.toList.take s.size = s.data.toList by rw [Lib.size_eq, List.take_length]] at hH
      have HH := hidU hH
      clear hH
      cases H with
      | false =>
        go_wp2
        go_ret
        refine ⟨?_, Below.refl _ _⟩
        show Ending.returned (Value.string s) = _
        rw [Lib.toUpperA, Lib.map_of_none Lib.upperB Lib.isLowerB Lib.upperB_of_not _ HH.out, Lib.mk_data]
      | true =>
        go_wp2_with (go_at_call 196; refine (Any.Builder_Grow_fresh bLay165 bX165 w.heap.size w.heap.size s.size _ (Nat.le_refl _) (heap_alloc_new w _) (by simp) (by omega)).mono ?_)
        rintro e w1 rfl h1 hb1
        have H1 := hidU (Or.inr h1 : IsB w.heap.size (upTo s 0) w1)
        have Hb1 := hidU (((Below.refl w.heap.size w).alloc (Nat.le_refl _) _).trans hb1)
        clear h1 hb1
        go_wp2
        go_loopw [8, 9] (fun pos i wr => ∃ p k : Nat, p ≤ k ∧ k ≤ s.size ∧ pos = .int .i64 p ∧ i = .int .i64 k ∧ Hid (IsB w.heap.size (upTo s p) wr) ∧ Hid (((s.data.toList.drop p).take (k - p)).any Lib.isLowerB = false) ∧ Hid (Below w.heap.size w wr)) (fun _ i _ => s.size - (intOf i).toNat)
        case atStart => exact ⟨0, 0, Nat.le_refl _, Nat.zero_le _, rfl, rfl, H1, rfl, Hb1⟩
        case round =>
          obtain ⟨p, k, hpk, hk2, rfl, rfl, HB, HN, HW⟩ := hrel
          have hlp := upTo_length s p (by omega)
          have hBw : w.heap.size ≤ wr.heap.size := HW.out.size
          by_cases hlt2 : k < s.size
          · have hxs := extract_len s p k (by omega)
            by_cases hlow : Lib.isLowerB (s[k]'hlt2) = true
            · have hr : (97 : Int) ≤ ((s[k]'hlt2).toNat : Int) ∧ ((s[k]'hlt2).toNat : Int) ≤ 122 := by rw [Lib.isLowerB_int] at hlow; simpa using hlow
              obtain ⟨h97, h122⟩ := hr
              have Hc := hidU (upTo_step s p k hpk hlt2 HN.out hlow)
              go_wp2_with fail
              · refine (Any.Builder_WriteString bLay166 bX166 w.heap.size w.heap.size _ (s.extract p k) wr HB.out (by rw [hlp, hxs]; omega) hBw).mono ?_
                rintro e w2 ⟨rfl, h2, hb2⟩
                have hBw2 : w.heap.size ≤ w2.heap.size := Nat.le_trans hBw hb2.size
                have H2 := hidU h2
                have Hb2 := hidU hb2
                clear h2 hb2
                go_wp2_with fail
                refine (Any.Builder_WriteByte bLay167 bX167 w.heap.size w.heap.size _ (((s[k]'hlt2).toNat : Int) - 32) w2 (Or.inr H2.out) (by rw [List.length_append, hlp, Lib.strCells_length, hxs]; omega) hBw2).mono ?_
                rintro e w3 ⟨rfl, h3, hb3⟩
                rw [Hc.out] at h3
                have H3 := hidU (Or.inr h3 : IsB w.heap.size _ w3)
                have Hb3 := hidU ((HW.out.trans Hb2.out).trans hb3)
                clear h3 hb3
                go_wp2
                exact ⟨⟨k + 1, k + 1, Nat.le_refl _, by omega, by go_num, by go_num, H3, by simp [Hid], Hb3⟩, by simp [intOf]; omega⟩
              · have hpe : p = k := by omega
                subst hpe
                refine (Any.Builder_WriteByte bLay167 bX167 w.heap.size w.heap.size _ (((s[p]'hlt2).toNat : Int) - 32) wr HB.out (by rw [hlp]; omega) hBw).mono ?_
                rintro e w3 ⟨rfl, h3, hb3⟩
                have hc' := Hc.out
                rw [strNil s p (by omega), List.append_nil] at hc'
                rw [hc'] at h3
                have H3 := hidU (Or.inr h3 : IsB w.heap.size _ w3)
                have Hb3 := hidU (HW.out.trans hb3)
                clear h3 hb3 hc'
                go_wp2
                exact ⟨⟨p + 1, p + 1, Nat.le_refl _, by omega, by go_num, by go_num, H3, by simp [Hid], Hb3⟩, by simp [intOf]; omega⟩
            · have hlow' : Lib.isLowerB (s[k]'hlt2) = false := by simpa using hlow
              have hnot : ¬ ((97 : Int) ≤ ((s[k]'hlt2).toNat : Int) ∧ ((s[k]'hlt2).toNat : Int) ≤ 122) := by
                have h := hlow'
                rw [Lib.isLowerB_int] at h
                simpa using h
              have Hs := hidU (noneUp s p k hpk hlt2 HN.out hlow')
              go_wp2
              all_goals first
                | exact ⟨⟨p, k + 1, by omega, by omega, rfl, by go_num, HB, Hs, HW⟩, by simp [intOf]; omega⟩
                | (exfalso; omega)
          · have hke2 : k = s.size := by omega
            subst hke2
            have hxs := extract_len s p s.size (Nat.le_refl _)
            have hne : s.data.toList.map Lib.upperB ≠ [] := by
              intro h0
              have h1 : s.data.toList = [] := by simpa using h0
              have h2 := HH.out
              rw [h1] at h2
              cases h2
            have Hc := hidU (upTo_end s p hpk HN.out)
            go_wp2_with fail
            · refine (Any.Builder_WriteString bLay166 bX166 w.heap.size w.heap.size _ (s.extract p s.size) wr HB.out (by rw [hlp, hxs]; omega) hBw).mono ?_
              rintro e w2 ⟨rfl, h2, hb2⟩
              rw [Hc.out] at h2
              have H2 := hidU (Or.inr h2 : IsB w.heap.size _ w2)
              have Hb2 := hidU (HW.out.trans hb2)
              clear h2 hb2
              go_wp2_with fail
              refine (Any.Builder_String bLay169 bX169 w.heap.size w.heap.size _ w2 H2.out hne).mono ?_
              rintro e w3 ⟨rfl, hb3⟩
              have Hb3 := hidU (Hb2.out.trans hb3)
              clear hb3
              go_wp2
              go_ret
              exact ⟨rfl, Hb3.out⟩
            · have hpe : p = s.size := by omega
              subst hpe
              have hc' := Hc.out
              rw [strNil s s.size (Nat.le_refl _), List.append_nil] at hc'
              have hB' := HB.out
              rw [hc'] at hB'
              refine (Any.Builder_String bLay169 bX169 w.heap.size w.heap.size _ wr hB' hne).mono ?_
              rintro e w3 ⟨rfl, hb3⟩
              have Hb3 := hidU (HW.out.trans hb3)
              clear hb3
              go_wp2
              go_ret
              exact ⟨rfl, Hb3.out⟩
end Go.V
/- A call's contract out of a law over the program. -/
namespace Go.V
open Go.RowKit Go.Proofs
theorem PC.of_below {C : Ctx} {f : FuncId} {args : List D} {d : D} {v : Value} (he : Enters C.P f) (hv : ∀ (w : World) (L : Nat → Prop) (μ : List Nat) (H : Heap), VR w L μ H d v)
    (h : ∀ (w : World) (L : Nat → Prop) (μ : List Nat) (H : Heap) (vs : List Value), VRs w L μ H args vs → Calls C.P f vs.toArray w fun e w' => e = .returned v ∧ Below w.heap.size w w') : PC C f args (fun o => o = .ret d) := by
  intro H
  refine ⟨he, fun L0 w μ vs hs ha => (h w _ μ H vs ha).mono fun e w' ⟨h1, h2⟩ => ?_⟩
  have hevo : Evo w w' μ μ H H :=
    ⟨h2.os, h2.tape, h2.output, h2.size, fun k hk _ => h2.block k hk, fun k _ hk => hk, fun _ _ h => h, fun i x hx => ⟨x, hx, fun o e => ⟨o, e, rfl, rfl, rfl, fun b cur _ hw => ⟨cur, by rw [h2.block b (Array.getElem?_eq_some_iff.1 hw).1]; exact hw, rfl⟩⟩⟩⟩
  exact ⟨.ret d, H, μ, ⟨rfl, rfl⟩, hs.next hevo hs.len (fun i o b k1 k2 => (hs.obj i o b k1 k2).same (h2.block b (hs.block_lt k1 k2))) hs.inj hs.own, ⟨v, h1, hv _ _ _ _⟩, hevo⟩
end Go.V
/- A contract over a heap of one object, met over any heap that holds it. -/
namespace Go.V
open Go.RowKit Go.Proofs
theorem puresAt : ∀ {l : List D} {j : Nat} {d : D}, D.pure.pures l = true → l[j]? = some d → d.pure = true
  | [], _, _, _, h => by simp at h
  | c :: l, j, d, h, hj => by
    simp only [D.pure.pures, Bool.and_eq_true] at h
    cases j with
    | zero => simp at hj; subst hj; exact h.1
    | succ j => simp only [List.getElem?_cons_succ] at hj; exact puresAt h.2 hj
theorem ObjR.move {w' w : World} {L : Nat → Prop} {μ μ' : List Nat} {H H' : Heap} {o : AObj} {b : Nat} (hsp : o.sp = none) (hp : D.pure.pures o.cells = true) (h : ObjR w' w L μ H o b) : ObjR w' w L μ' H' o b := by
  obtain ⟨cur, h1, h2, h3⟩ := h.row hsp
  refine .of_row hsp ⟨cur, h1, h2, fun j d hd => ?_⟩
  obtain ⟨v, k1, k2, k3⟩ := h3 j d hd
  exact ⟨v, k1, k2, VR.lift (VR.drop (puresAt hp hd) k3)⟩
theorem HC.frame1 {C : Ctx} {f : FuncId} {o o' : AObj} {n : Nat} {r : D} (hc : HC C f [some o] [.row 0 n] (fun x H' => x = .ret r ∧ H' = [some o'])) (ho : o.live = true) (ho' : o'.live = true) (hsp : o.sp = none) (hsp' : o'.sp = none) (hp : D.pure.pures o.cells = true) (hp' : D.pure.pures o'.cells = true) (hr : r.pure = true) {H : Heap} {id : Nat} (hid : H[id]? = some (some o)) :
    HC C f H [.row id n] (fun x H' => x = .ret r ∧ H' = H.set id (some o')) := by
  refine ⟨hc.1, fun L0 w μ vs hs ha => ?_⟩
  have hil : id < H.length := (List.getElem?_eq_some_iff.1 hid).1
  obtain ⟨b, hb⟩ : ∃ b, μ[id]? = some b := ⟨μ[id]'(by rw [hs.len]; exact hil), by simp [hs.len, hil]⟩
  let L1 : Nat → Prop := fun b' => L0 b' ∨ (liveB μ H b' ∧ b' ≠ b)
  have hlb : liveB μ H b := ⟨id, o, hid, ho, hb⟩
  have hl1 : ∀ b', liveB [b] [some o] b' ↔ b' = b := by
    intro b'
    constructor
    · rintro ⟨i, oi, h1, _, h3⟩
      cases i with
      | zero => simp at h3; exact h3.symm
      | succ i => simp at h3
    · rintro rfl; exact ⟨0, o, rfl, ho, rfl⟩
  have hforb : forb L1 [b] [some o] = forb L0 μ H := by
    funext b'
    apply propext
    constructor
    · rintro (h | h)
      · rcases h with h | h
        · exact .inl h
        · exact .inr h.1
      · rw [(hl1 b').1 h]; exact .inr hlb
    · rintro (h | h)
      · exact .inl (.inl h)
      · by_cases e : b' = b
        · exact .inr ((hl1 b').2 e)
        · exact .inl (.inr ⟨h, e⟩)
  have hs1 : SR C L1 w [b] [some o] := by
    refine ⟨rfl, fun i oi bi h1 h2 => ?_, fun i j oi oj bi h1 h2 h3 h4 _ => ?_, fun i oi bi h1 h2 => ?_, fun b' hb' => ?_, fun g cs hg => ?_⟩
    · cases i with
      | zero =>
        simp at h1 h2; subst h1; subst h2
        rw [hforb]
        exact (hs.obj id _ _ hid hb).move hsp hp
      | succ i => simp at h1
    · cases i <;> cases j <;> simp at h1 h2 ⊢
    · cases i with
      | zero =>
        simp at h2; subst h2
        rintro (h | h)
        · exact hs.own id o _ hid hb h
        · exact h.2 rfl
      | succ i => simp at h1
    · rcases hb' with h | h
      · exact hs.lim _ h
      · obtain ⟨i, oi, h1, h2, h3⟩ := h.1
        exact hs.block_lt h1 h3
    · rw [hforb]; exact hs.glob g cs hg
  have ha1 : VRs w (forb L1 [b] [some o]) [b] [some o] [.row 0 n] vs := by
    simp only [VRs] at ha ⊢
    obtain ⟨v, us, rfl, h1, rfl⟩ := ha
    refine ⟨v, [], rfl, ?_, rfl⟩
    simp only [VR] at h1 ⊢
    obtain ⟨x, hx, h2⟩ := h1
    rw [hid] at hx
    injection hx with hx
    subst hx
    obtain ⟨b', cap, cur, k1, k2⟩ := h2 o rfl
    rw [hb] at k1
    injection k1 with k1
    subst k1
    exact ⟨some o, rfl, fun o1 e => by injection e with e; subst e; exact ⟨b, cap, cur, rfl, k2⟩⟩
  refine (hc.2 L1 w [b] vs hs1 ha1).mono ?_
  rintro e w' ⟨x, H1, μ1, ⟨rfl, rfl⟩, hs', ⟨v, he, hv⟩, hevo⟩
  have hμ : μ1 = [b] := by
    have h1 := hevo.map 0 b rfl
    have h2 := hs'.len
    match μ1, h1, h2 with
    | [c], h1, _ => simp at h1; rw [h1]
  subst hμ
  have hun : ∀ k, k < w.heap.size → k ≠ b → w'.heap[k]? = w.heap[k]? := fun k hk hkb => hevo.chg k hk fun h => hkb ((hl1 k).1 h)
  have hother : ∀ (i : Nat) (oi : AObj) (k : Nat), i ≠ id → H[i]? = some (some oi) → μ[i]? = some k → k ≠ b := by
    intro i oi k h1 h2 h3 e
    subst e
    exact h1 (hs.inj id i o oi k hid h2 hb h3 ho).symm
  have hcase : ∀ (i : Nat) (oi : AObj), (H.set id (some o'))[i]? = some (some oi) → (i ≠ id ∧ H[i]? = some (some oi)) ∨ (i = id ∧ oi = o') := by
    intro i oi h
    by_cases e : id = i
    · subst e; rw [List.getElem?_set_self hil] at h; injection h with h; injection h with h; exact .inr ⟨rfl, h.symm⟩
    · rw [List.getElem?_set_ne e] at h; exact .inl ⟨fun h => e h.symm, h⟩
  have hbig : Evo w w' μ μ H (H.set id (some o')) := by
    refine ⟨hevo.os, hevo.tape, hevo.output, hevo.size, fun k hk hkl => hun k hk (by rintro rfl; exact hkl hlb), fun k hk hkl => ?_, fun _ _ h => h, fun i x hx => ?_⟩
    · obtain ⟨i, oi, h1, h2, h3⟩ := hkl
      rcases hcase i oi h1 with ⟨_, k1⟩ | ⟨rfl, rfl⟩
      · exact ⟨i, oi, k1, h2, h3⟩
      · rw [hb] at h3; injection h3 with h3; subst h3; exact hlb
    · by_cases e : id = i
      · subst e
        rw [hid] at hx
        injection hx with hx
        subst hx
        obtain ⟨x', hx', h4⟩ := hevo.heap 0 (some o) rfl
        simp at hx'
        subst hx'
        refine ⟨some o', by rw [List.getElem?_set_self hil], fun o'' e => ?_⟩
        obtain ⟨o1, q1, q2, q3, q4, q5⟩ := h4 o'' e
        injection q1 with q1
        subst q1
        exact ⟨o, rfl, q2, q3, q4, fun k cur hk hw => q5 k cur (by rw [hb] at hk; exact hk) hw⟩
      · refine ⟨x, by rw [List.getElem?_set_ne e]; exact hx, fun o'' h => ⟨o'', h, rfl, rfl, rfl, fun k cur hk hw => ⟨cur, ?_, rfl⟩⟩⟩
        subst h
        rw [hun k (Array.getElem?_eq_some_iff.1 hw).1 (hother i o'' k (fun h => e h.symm) hx hk)]; exact hw
  have hsr : SR C L0 w' μ (H.set id (some o')) := by
    have st := hbig.step L0
    refine ⟨by rw [List.length_set]; exact hs.len, fun i oi k h1 h2 => ?_, fun i j oi oj k h1 h2 h3 h4 hl => ?_, fun i oi k h1 h2 => ?_, fun b' hb' => Nat.lt_of_lt_of_le (hs.lim b' hb') hbig.size, fun g cs hg => ?_⟩
    · rcases hcase i oi h1 with ⟨k0, k1⟩ | ⟨rfl, rfl⟩
      · exact ((hs.obj i oi k k1 h2).same (hun k (hs.block_lt k1 h2) (hother i oi k k0 k1 h2))).step st
      · rw [hb] at h2; injection h2 with h2; subst h2
        have hf2 : forb L1 [b] [some oi] = forb L0 μ (H.set i (some oi)) := by
          have e1 : forb L1 [b] [some oi] = forb L1 [b] [some o] := by
            funext b'
            apply propext
            unfold forb
            constructor
            · rintro (h | ⟨j, oj, q1, q2, q3⟩)
              · exact .inl h
              · right
                cases j with
                | zero => simp at q3; subst q3; exact (hl1 _).2 rfl
                | succ j => simp at q3
            · rintro (h | h)
              · exact .inl h
              · right; rw [(hl1 b').1 h]; exact ⟨0, oi, rfl, ho', rfl⟩
          rw [e1, hforb]
          funext b'
          apply propext
          unfold forb
          constructor
          · rintro (h | ⟨j, oj, q1, q2, q3⟩)
            · exact .inl h
            · right
              by_cases e : i = j
              · subst e; rw [hb] at q3; injection q3 with q3; subst q3; exact ⟨i, oi, List.getElem?_set_self hil, ho', hb⟩
              · exact ⟨j, oj, by rw [List.getElem?_set_ne e]; exact q1, q2, q3⟩
          · rintro (h | ⟨j, oj, q1, q2, q3⟩)
            · exact .inl h
            · right
              rcases hcase j oj q1 with ⟨_, q4⟩ | ⟨rfl, rfl⟩
              · exact ⟨j, oj, q4, q2, q3⟩
              · rw [hb] at q3; injection q3 with q3; subst q3; exact hlb
        have := hs'.obj 0 oi b rfl rfl
        rw [hf2] at this
        exact this.move hsp' hp'
    · rcases hcase i oi h1 with ⟨k0, k1⟩ | ⟨rfl, rfl⟩ <;> rcases hcase j oj h2 with ⟨m0, m1⟩ | ⟨rfl, rfl⟩
      · exact hs.inj i j oi oj k k1 m1 h3 h4 hl
      · rw [hb] at h4; injection h4 with h4; subst h4; exact (hother i oi _ k0 k1 h3 rfl).elim
      · rw [hb] at h3; injection h3 with h3; subst h3; exact (hother j oj _ m0 m1 h4 rfl).elim
      · rfl
    · rcases hcase i oi h1 with ⟨k0, k1⟩ | ⟨rfl, rfl⟩
      · exact hs.own i oi k k1 h2
      · exact hs.own i o k hid h2
    · obtain ⟨h1, h2, h3⟩ := hs.glob g cs hg
      exact ⟨Nat.lt_of_lt_of_le h1 hbig.size, st.keep g h1 h2, VRL.step st.pure h1 h2 h3⟩
  refine ⟨.ret r, H.set id (some o'), μ, ⟨rfl, rfl⟩, hsr, ⟨v, he, ?_⟩, hbig⟩
  have hv0 := VR.drop hr hv
  refine VR.lift ?_
  have : Step w' w' (forb L1 [b] [some o']) (forb L0 μ (H.set id (some o'))) [] [] [] [] := by
    refine ⟨Nat.le_refl _, fun _ _ _ => rfl, fun b' _ h => ?_, fun _ _ h => by simp at h, HStep.nil _ _ _⟩
    rintro (h' | ⟨j, oj, q1, q2, q3⟩)
    · exact h (.inl (.inl h'))
    · rcases hcase j oj q1 with ⟨q0, q4⟩ | ⟨rfl, rfl⟩
      · exact h (.inl (.inr ⟨⟨j, oj, q4, q2, q3⟩, hother j oj b' q0 q4 q3⟩))
      · rw [hb] at q3; injection q3 with q3; subst q3; exact h (.inr ⟨0, oj, rfl, ho', rfl⟩)
  exact VR.step this hv0
end Go.V
set_option maxHeartbeats 2000000
set_option synthInstance.maxSize 100000
set_option synthInstance.maxHeartbeats 2000000
namespace Go.V
open Go.RowKit Go.Proofs
abbrev rowB (ys : List Nat) : Option AObj := some ⟨nts .u8 ys, Zh5, 1, true, none⟩
structure RevI (xs ys : List Nat) (i : Nat) : Prop where
  l : ys.length = xs.length
  h : 2 * i ≤ xs.length + 1
  g : ∀ j, j < xs.length → ys.getD j 0 = if j < i ∨ xs.length ≤ j + i then xs.getD (xs.length - 1 - j) 0 else xs.getD j 0
theorem RevI.start (xs : List Nat) : RevI xs xs 0 := ⟨rfl, by omega, fun j hj => by rw [if_neg (by omega)]⟩
theorem getD_set {l : List Nat} {i j v : Nat} (hi : i < l.length) : (l.set i v).getD j 0 = if i = j then v else l.getD j 0 := by
  rw [List.getD_eq_getElem?_getD, List.getD_eq_getElem?_getD, List.getElem?_set]
  by_cases e : i = j
  · subst e; simp [hi]
  · simp [e]
theorem RevI.step {xs ys : List Nat} {i j : Nat} (h : RevI xs ys i) (hij : i < j) (hj : j + i + 1 = xs.length) : RevI xs ((ys.set i (ys.getD j 0)).set j (ys.getD i 0)) (i + 1) := by
  have hl := h.l
  refine ⟨by simp [hl], by omega, fun k hk => ?_⟩
  rw [getD_set (by simp; omega), getD_set (by omega)]
  by_cases e1 : j = k
  · subst e1
    rw [if_pos rfl, if_pos (by omega), h.g i (by omega), if_neg (by omega), show xs.length - 1 - j = i by omega]
  · rw [if_neg e1]
    by_cases e2 : i = k
    · subst e2
      rw [if_pos rfl, if_pos (by omega), h.g j (by omega), if_neg (by omega), show xs.length - 1 - i = j by omega]
    · rw [if_neg e2, h.g k hk]
      by_cases e3 : k < i ∨ xs.length ≤ k + i
      · rw [if_pos e3, if_pos (by omega)]
      · rw [if_neg e3, if_neg (by omega)]
theorem RevI.fin {xs ys : List Nat} {i : Nat} (h : RevI xs ys i) (hn : xs.length ≤ 2 * i + 1) : ys = xs.reverse := by
  have hl := h.l
  apply List.ext_getElem?
  intro j
  by_cases hj : j < xs.length
  · have e := h.g j hj
    have e2 : ys.getD j 0 = xs.getD (xs.length - 1 - j) 0 := by
      rw [e]
      by_cases e3 : j < i ∨ xs.length ≤ j + i
      · rw [if_pos e3]
      · rw [if_neg e3, show xs.length - 1 - j = j by omega]
    rw [List.getElem?_reverse hj]
    rw [List.getD_eq_getElem?_getD, List.getD_eq_getElem?_getD] at e2
    rw [List.getElem?_eq_getElem (show j < ys.length by omega), List.getElem?_eq_getElem (show xs.length - 1 - j < xs.length by omega)] at e2 ⊢
    simpa using e2
  · rw [List.getElem?_eq_none (by omega), List.getElem?_eq_none (by simp; omega)]
theorem ZkQ (xs : List Nat) (hn : xs.length ≤ 1099511627776) : HC C ZbU [rowB xs] [.row 0 xs.length] (fun o H' => o = .ret (.tup []) ∧ H' = [rowB xs.reverse]) := by
  refine HC.run ZaG ZbP rfl ZbQ (rs := []) (by rw [ZbR]) (by simp only [List.length_cons, List.length_nil, Nat.reduceAdd, Nat.reduceSub, List.replicate_succ, List.replicate_zero, List.cons_append, List.nil_append]; exact rfl) ?_
  refine ARun.seq (ARun.region ?_)
  refine y_op rfl (q_move rfl) ?_
  refine y_op rfl (Zb0 rfl rfl rfl) ?_
  refine y_op rfl (q_sub rfl rfl (IntWalk.i64_in _ (by omega))) ?_
  refine y_op rfl (Zaa rfl) ?_
  refine y_op rfl (Zaa rfl) ?_
  refine AOps.nil (ARun.block ?_)
  refine ARun.loopI (S := Nat × Int × List Nat) (fun σ : Nat × Int × List Nat => [(7, .any), (8, .any), (9, .any), (10, .any), (11, .any), (12, .any), (13, .any), (14, .any), (15, .any), (16, .any), (17, .any), (18, .any), (19, .any), (20, .any), (21, .any), (22, .any), (23, .any), (24, .any), (25, .any), (26, .any), (27, .any), (2, .int .i64 (σ.1 : Int)), (3, .int .i64 σ.2.1)]) (fun σ : Nat × Int × List Nat => [rowB σ.2.2]) (fun σ : Nat × Int × List Nat => σ.2.1 = (xs.length : Int) - 1 - (σ.1 : Int) ∧ RevI xs σ.2.2 σ.1) (fun σ : Nat × Int × List Nat => xs.length - σ.1) ((0, (xs.length : Int) - 1, xs)) ?_ ?_ ?_ ?_
  · exact ⟨by show (xs.length : Int) - 1 = (xs.length : Int) - 1 - ((0 : Nat) : Int); omega, RevI.start xs⟩
  · (repeat' first | exact envLe_nil | apply envLe_any | apply envLe_same)
  · rfl
  rintro ⟨i, t, ys⟩ hinv ih
  dsimp only at hinv ih ⊢
  obtain ⟨ht, hinv⟩ := hinv
  have hl := hinv.l
  have hh := hinv.h
  refine ARun.seq (ARun.seq (ARun.region ?_))
  refine y_op rfl (q_move rfl) ?_
  refine y_op rfl (q_move rfl) ?_
  refine y_op rfl (q_int rfl rfl rfl) ?_
  refine AOps.nil ?_
  refine ARun.cond rfl (fun h => ?_) (fun h => ?_)
  · skip
    have h := of_decide_eq_true h
    obtain ⟨j, hj⟩ : ∃ j : Nat, j + i + 1 = xs.length := ⟨xs.length - 1 - i, by omega⟩
    obtain rfl : t = (j : Int) := by omega
    refine ARun.skip (ARun.seq (ARun.block ?_))
    refine ARun.drawnG (n := 14) (fun S : Nat → Bool => [rowB (bif S 13 then ys.set i (ys.getD j 0) else ys)]) [] (fun _ => False) (sk := []) mixC rfl rfl (by kernel_rfl) rfl (by kernel_rfl) rfl (fun _ _ _ h => h.elim) ?_
    refine DChG.op rfl (fun _ => q_move rfl) (fun _ => rfl) rfl rfl ?_
    refine DChG.op rfl (fun _ => q_move rfl) (fun _ => rfl) rfl rfl ?_
    refine DChG.op rfl (fun _ => q_move rfl) (fun _ => rfl) rfl rfl ?_
    refine DChG.op rfl (fun _ => q_move rfl) (fun _ => rfl) rfl rfl ?_
    refine DChG.op rfl (fun _ => q_move rfl) (fun _ => rfl) rfl rfl ?_
    refine DChG.op rfl (fun _ => q_move rfl) (fun _ => rfl) rfl rfl ?_
    refine DChG.op rfl (fun _ => ZaE rfl rfl rfl rfl rfl (by omega) (by omega) (idx_nat rfl)) (fun _ => rfl) rfl rfl ?_
    refine DChG.opC rfl (fun S hn hd hc => OpQ.pre (H1 := [rowB (bif false then ys.set i (ys.getD j 0) else ys)]) (by simp only [(clF hc hn (by kernel_rfl) : S 13 = false)]) (Zai rfl rfl rfl rfl (nts_get (xs := ys) (i := j) (by omega)))) (fun _ => rfl) rfl rfl ?_
    refine DChG.op rfl (fun _ => q_move rfl) (fun _ => rfl) rfl rfl ?_
    refine DChG.op rfl (fun _ => q_move rfl) (fun _ => rfl) rfl rfl ?_
    refine DChG.op rfl (fun _ => ZaE rfl rfl rfl rfl rfl (by omega) (by omega) (idx_nat rfl)) (fun _ => rfl) rfl rfl ?_
    refine DChG.opC rfl (fun S hn hd hc => OpQ.pre (H1 := [rowB (bif false then ys.set i (ys.getD j 0) else ys)]) (by simp only [(clF hc hn (by kernel_rfl) : S 13 = false)]) (Zai rfl rfl rfl rfl (nts_get (xs := ys) (i := i) (by omega)))) (fun _ => rfl) rfl rfl ?_
    refine DChG.op rfl (fun _ => ZaE rfl rfl rfl rfl rfl (by omega) (by omega) (idx_nat rfl)) (fun _ => rfl) rfl rfl ?_
    refine DChG.stC rfl (fun S hn hd hc => OpN.both (H1 := [rowB (bif false then ys.set i (ys.getD j 0) else ys)]) (H3 := [rowB (bif true then ys.set i (ys.getD j 0) else ys)]) (by simp only [hn]) rfl (Zah rfl rfl rfl rfl rfl rfl (by simp; omega) nts_set)) rfl rfl ?_
    refine .nil (fun hG => AOps.fin (n := 1) (as' := []) (H' := [rowB (ys.set i (ys.getD j 0))]) rfl rfl rfl ?_)
    refine y_op rfl (ZaE rfl rfl rfl rfl rfl (by omega) (by omega) (idx_nat rfl)) ?_
    refine y_new rfl (Zah rfl rfl rfl rfl rfl rfl (by simp; omega) nts_set) ?_
    refine AOps.nil (ARun.inBlock (ARun.region ?_))
    refine y_op rfl (q_move rfl) ?_
    refine y_op rfl (q_add rfl rfl (nadd1_i64 (by omega))) ?_
    refine y_op rfl (q_move rfl) ?_
    refine y_op rfl (q_sub rfl rfl (nsub1_i64 (by omega) (by omega))) ?_
    refine y_op rfl (Zaa rfl) ?_
    refine y_op rfl (Zaa rfl) ?_
    refine AOps.nil ?_
    refine ARun.again (ih ((i + 1, ((j - 1 : Nat) : Int), (ys.set i (ys.getD j 0)).set j (ys.getD i 0))) ?_ ?_) ?_ ?_
    · exact ⟨by dsimp only; omega, hinv.step (by omega) hj⟩
    · (dsimp only; omega)
    · (repeat' first | exact envLe_nil | apply envLe_any | apply envLe_same)
    · rfl
  · skip
    have h := of_decide_eq_false h
    refine ARun.exit rfl ?_
    refine ARun.nil ?_
    refine ⟨_, _, _, .nil, .nil, ?_⟩
    exact ⟨rfl, by rw [hinv.fin (by omega)]; rfl⟩
end Go.V
set_option maxHeartbeats 2000000
set_option synthInstance.maxSize 100000
set_option synthInstance.maxHeartbeats 2000000
namespace Go.V
open Go.RowKit Go.Proofs
def fig (d : Nat) : Nat := if d < 10 then 48 + d else 87 + d
def txt (b v : Nat) : List Nat := if v = 0 then [48] else ((dgs b v).map fig).reverse
abbrev figS : ByteArray := ⟨#[48, 49, 50, 51, 52, 53, 54, 55, 56, 57, 97, 98, 99, 100, 101, 102, 103, 104, 105, 106, 107, 108, 109, 110, 111, 112, 113, 114, 115, 116, 117, 118, 119, 120, 121, 122]⟩
theorem figS_size : figS.size = 36 := rfl
theorem fig_all : ∀ d : _root_.Fin 36, (figS[d.val]'d.isLt).toNat = fig d.val := by decide
theorem fig_get {d : Nat} (h : d < 36) (h' : ((d : Nat) : Int).toNat < figS.size) : ((figS[((d : Nat) : Int).toNat]'h').toNat : Int) = ((fig d : Nat) : Int) := congrArg Int.ofNat (fig_all ⟨d, h⟩)
theorem dgs_len {b : Nat} (hb : 2 ≤ b) : ∀ (n v : Nat), v < 2 ^ n → (dgs b v).length ≤ n := by
  intro n
  induction n with
  | zero => intro v h; have : v = 0 := by omega
            subst this; rw [dgs_zero]; exact Nat.le_refl _
  | succ n ih =>
    intro v h
    rcases Nat.eq_zero_or_pos v with h0 | h0
    · subst h0; rw [dgs_zero]; exact Nat.zero_le _
    · rw [dgs_pos hb h0, List.length_cons]
      have : v / b < 2 ^ n := by
        rw [Nat.div_lt_iff_lt_mul (by omega)]
        have : 2 ^ n * 2 ≤ 2 ^ n * b := Nat.mul_le_mul_left _ hb
        rw [Nat.pow_succ] at h
        omega
      have := ih _ this
      omega
theorem B_pow2 (n : Nat) : B ^ n = 2 ^ (32 * n) := by rw [Nat.pow_mul]; rfl
theorem dgs_fit {b a : Nat} (hb : 2 ≤ b) (ha : (lim a).length ≤ 1024) : (dgs b a).length ≤ 32768 := by
  suffices h : ∀ N, 32 * (lim a).length ≤ N → (dgs b a).length ≤ N from h _ (by omega)
  intro N hN
  apply dgs_len hb
  have h1 := ln_lt a
  rw [B_pow2] at h1
  exact Nat.lt_of_lt_of_le h1 (Nat.pow_le_pow_right (by decide) hN)
abbrev bts (b a k : Nat) : List D := nts .u8 (((dgs b a).take k).map fig)
theorem bts_succ {b a k d : Nat} (h : (dgs b a)[k]? = some d) : bts b a (k + 1) = bts b a k ++ [.int .u8 ((fig d : Nat) : Int)] := by
  show (((dgs b a).take (k + 1)).map fig).map _ = _
  rw [List.take_add_one, h]
  simp
theorem getJ {α : Type} {a b c d e x : α} {J : List α} : (a :: b :: c :: d :: e :: (J ++ [x]))[5 + J.length]? = some x := by
  rw [show 5 + J.length = J.length + 5 by omega]
  simp
theorem setJ {α : Type} {a b c d e x y : α} {J : List α} : (a :: b :: c :: d :: e :: (J ++ [x])).set (5 + J.length) y = a :: b :: c :: d :: e :: (J ++ [y]) := by
  rw [show 5 + J.length = J.length + 5 by omega]
  simp
theorem srcD_row {H : Heap} {id n : Nat} {o : AObj} (h : H[id]? = some (some o)) : srcD H (.row id n) = some (n, o.cells) := by simp only [srcD, h]
def RT (b a k : Nat) (o0 : Option AObj) (T : Heap) : Prop := ∃ J : Heap, o0 = some ⟨[growD (5 + J.length) (bts b a k)], Zgg, 1, true, none⟩ ∧ T = growT J Zh5 (bts b a k)
theorem Zmj (a b : Nat) (ha : (lim a).length ≤ 1024) (hb2 : 2 ≤ b) (hb36 : b ≤ 36) : PC C ZjH [numD a, .int .i64 (b : Int)] (fun o => o = .ret (.str (bytesOf (txt b a)))) := by
  have hfit := dgs_fit hb2 ha
  refine PC.run ZdZ Ziz rfl ZiA rfl (rs := [.tmp 4]) (by rw [ZiB]) (by simp only [List.length_cons, List.length_nil, Nat.reduceAdd, Nat.reduceSub, List.replicate_succ, List.replicate_zero, List.cons_append, List.nil_append]; exact rfl) ?_
  refine ARun.seq (ARun.region ?_)
  refine y_op rfl (Zaa rfl) ?_
  refine AOps.nil (ARun.seq (ARun.region ?_))
  refine y_new rfl (Zag rfl rfl rfl rfl) ?_
  refine AOps.nil (ARun.seq (ARun.seq (ARun.region ?_)))
  refine y_op rfl (q_move rfl) ?_
  refine y_op rfl (q_move rfl) ?_
  refine Zg1 rfl rfl rfl rfl (Zmi a b _) ?_ (by rintro _ _ ⟨h, _⟩; cases h)
  rintro _ _ ⟨h, rfl⟩
  injection h with h
  subst h
  refine AOps.nil (ARun.block ?_)
  refine ARun.rangeFn (n := 3) rfl rfl rfl (ZkP a b ha hb2 hb36 [10] rfl _ _ _ (RT b a) (fun k c d o0 T hd hR => ?_) _ [] ?_) ?_ ?_
  · obtain ⟨J, rfl, rfl⟩ := hR
    have hk := (List.getElem?_eq_some_iff.1 hd).1
    have hd36 : d < 36 := Nat.lt_of_lt_of_le (dgs_lt hb2 a d (List.mem_of_getElem? hd)) hb36
    have hbl : (bts b a k).length + 1 ≤ 40000 := by
      simp only [nts, List.length_map, List.length_take]; omega
    refine ARun.env0 (by simp only [setL, List.zip_cons_cons, List.zip_nil_right, List.set_cons_succ, List.set_cons_zero]; exact rfl) ?_
    refine ARun.region ?_
    refine y_op rfl (Zaa rfl) ?_
    refine AOps.nil ?_
    refine ARun.beginRoundI rfl rfl ?_
    refine ARun.block ?_
    refine ARun.drawnAll 6 mixC (by kernel_rfl) (by kernel_rfl) (allOf (by kernel_rfl : _ = [[0, 1, 2, 3, 4, 5], [1, 0, 2, 3, 4, 5], [1, 2, 0, 3, 4, 5], [1, 2, 3, 0, 4, 5]]) (consAll ?_ (consAll ?_ (consAll ?_ (consAll ?_ nilAll)))))
    · skip
      refine yo_at ?_
      refine yo_op rfl (Zai rfl rfl rfl rfl rfl) ?_
      refine yo_at ?_
      refine yo_op rfl (q_move rfl) ?_
      refine yo_at ?_
      refine yo_op rfl (ZbZ rfl rfl rfl (by omega) (by rw [figS_size]; omega) (fig_get hd36 _)) ?_
      refine yo_at ?_
      refine yo_new rfl (Zam rfl rfl rfl rfl rfl rfl rfl rfl rfl rfl rfl (by decide) (by decide)) ?_
      refine yo_at ?_
      refine yo_grow rfl rfl rfl rfl rfl rfl rfl rfl rfl rfl (by show (_ + 1) * 1 ≤ _; omega) (by omega) (fun J' => ?_)
      refine yo_at ?_
      refine yo_new rfl (Zah rfl rfl rfl (okCell_grow (B := [_, _, _, _, _]) rfl) rfl rfl (Nat.le_of_ble_eq_true rfl) rfl) ?_
      refine yo_nil ?_
      refine ARun.inBlock ?_
      refine ARun.nil ⟨rfl, rfl, _, _, ?_, rfl⟩
      unfold RT
      rw [bts_succ hd]
      exact ⟨J', rfl, rfl⟩
    · skip
      refine yo_at ?_
      refine yo_op rfl (q_move rfl) ?_
      refine yo_at ?_
      refine yo_op rfl (Zai rfl rfl rfl rfl rfl) ?_
      refine yo_at ?_
      refine yo_op rfl (ZbZ rfl rfl rfl (by omega) (by rw [figS_size]; omega) (fig_get hd36 _)) ?_
      refine yo_at ?_
      refine yo_new rfl (Zam rfl rfl rfl rfl rfl rfl rfl rfl rfl rfl rfl (by decide) (by decide)) ?_
      refine yo_at ?_
      refine yo_grow rfl rfl rfl rfl rfl rfl rfl rfl rfl rfl (by show (_ + 1) * 1 ≤ _; omega) (by omega) (fun J' => ?_)
      refine yo_at ?_
      refine yo_new rfl (Zah rfl rfl rfl (okCell_grow (B := [_, _, _, _, _]) rfl) rfl rfl (Nat.le_of_ble_eq_true rfl) rfl) ?_
      refine yo_nil ?_
      refine ARun.inBlock ?_
      refine ARun.nil ⟨rfl, rfl, _, _, ?_, rfl⟩
      unfold RT
      rw [bts_succ hd]
      exact ⟨J', rfl, rfl⟩
    · skip
      refine yo_at ?_
      refine yo_op rfl (q_move rfl) ?_
      refine yo_at ?_
      refine yo_op rfl (ZbZ rfl rfl rfl (by omega) (by rw [figS_size]; omega) (fig_get hd36 _)) ?_
      refine yo_at ?_
      refine yo_op rfl (Zai rfl rfl rfl rfl rfl) ?_
      refine yo_at ?_
      refine yo_new rfl (Zam rfl rfl rfl rfl rfl rfl rfl rfl rfl rfl rfl (by decide) (by decide)) ?_
      refine yo_at ?_
      refine yo_grow rfl rfl rfl rfl rfl rfl rfl rfl rfl rfl (by show (_ + 1) * 1 ≤ _; omega) (by omega) (fun J' => ?_)
      refine yo_at ?_
      refine yo_new rfl (Zah rfl rfl rfl (okCell_grow (B := [_, _, _, _, _]) rfl) rfl rfl (Nat.le_of_ble_eq_true rfl) rfl) ?_
      refine yo_nil ?_
      refine ARun.inBlock ?_
      refine ARun.nil ⟨rfl, rfl, _, _, ?_, rfl⟩
      unfold RT
      rw [bts_succ hd]
      exact ⟨J', rfl, rfl⟩
    · skip
      refine yo_at ?_
      refine yo_op rfl (q_move rfl) ?_
      refine yo_at ?_
      refine yo_op rfl (ZbZ rfl rfl rfl (by omega) (by rw [figS_size]; omega) (fig_get hd36 _)) ?_
      refine yo_at ?_
      refine yo_new rfl (Zam rfl rfl rfl rfl rfl rfl rfl rfl rfl rfl rfl (by decide) (by decide)) ?_
      refine yo_at ?_
      refine yo_op rfl (Zai rfl rfl rfl rfl rfl) ?_
      refine yo_at ?_
      refine yo_grow rfl rfl rfl rfl rfl rfl rfl rfl rfl rfl (by show (_ + 1) * 1 ≤ _; omega) (by omega) (fun J' => ?_)
      refine yo_at ?_
      refine yo_new rfl (Zah rfl rfl rfl (okCell_grow (B := [_, _, _, _, _]) rfl) rfl rfl (Nat.le_of_ble_eq_true rfl) rfl) ?_
      refine yo_nil ?_
      refine ARun.inBlock ?_
      refine ARun.nil ⟨rfl, rfl, _, _, ?_, rfl⟩
      unfold RT
      rw [bts_succ hd]
      exact ⟨J', rfl, rfl⟩
  · exact ⟨[], rfl, rfl⟩
  · rintro d H2 ⟨h, o0', T', hR, rfl⟩
    injection h with h
    subst h
    obtain ⟨J, rfl, rfl⟩ := hR
    refine ⟨.ready, rfl, ?_⟩
    have hfull : bts b a (dgs b a).length = nts .u8 ((dgs b a).map fig) := by show (((dgs b a).take _).map fig).map _ = _; rw [List.take_length]
    rw [hfull]
    rcases Nat.eq_zero_or_pos a with h0 | h0
    · subst h0
      rw [show dgs b 0 = [] from dgs_zero b]
      refine ARun.hp (H' := some ⟨[.nilsl], Zgg, 1, true, none⟩ :: some ⟨[numD 0], ZdI, 1, true, none⟩ :: some ⟨[.int .i64 (b : Int)], t_int, 1, true, none⟩ :: defsO :: none :: J) rfl ?_
      refine ARun.inBlock (ARun.seq (ARun.seq (ARun.region ?_)))
      refine y_op rfl (Zai rfl rfl rfl rfl rfl) ?_
      refine y_op rfl (ZmE rfl rfl) ?_
      refine y_op rfl (q_int rfl rfl rfl) ?_
      refine AOps.nil ?_
      refine ARun.ite rfl (fun hz => ?_) (fun hz => ?_)
      · skip
        refine ARun.seq (ARun.region ?_)
        refine y_op rfl (Zaa rfl) ?_
        refine AOps.nil ?_
        refine ARun.ret ?_
        exact ⟨⟨_, rfl, rfl, rfl⟩, _, _, _, .tmp rfl .nil, .cons (.same _) .nil, rfl, rfl⟩
      · skip
        exact absurd rfl hz
    · have hne : (dgs b a).map fig ≠ [] := by rw [dgs_pos hb2 h0]; simp
      have htx : txt b a = ((dgs b a).map fig).reverse := by unfold txt; rw [if_neg (by omega)]
      have hln : ((dgs b a).map fig).length ≤ 32768 := by simpa using hfit
      have hu8 : ∀ x ∈ (dgs b a).map fig, x < 256 := by
        intro x hx
        obtain ⟨d, hd, rfl⟩ := List.mem_map.1 hx
        have := dgs_lt hb2 a d hd
        unfold fig; split <;> omega
      rw [htx]
      generalize (dgs b a).map fig = X at *
      obtain ⟨x, l, rfl⟩ := List.exists_cons_of_ne_nil hne
      refine ARun.hp (H' := some ⟨[.row (5 + J.length) (x :: l).length], Zgg, 1, true, none⟩ :: some ⟨[numD 0], ZdI, 1, true, none⟩ :: some ⟨[.int .i64 (b : Int)], t_int, 1, true, none⟩ :: defsO :: none :: (J ++ [rowB (x :: l)])) (by simp [growD, growT, nts]) ?_
      refine ARun.inBlock (ARun.seq (ARun.seq (ARun.region ?_)))
      refine y_op rfl (Zai rfl rfl rfl rfl rfl) ?_
      refine y_op rfl (Zb0 rfl getJ rfl) ?_
      refine y_op rfl (q_int rfl rfl rfl) ?_
      refine AOps.nil ?_
      refine ARun.ite rfl (fun hz => ?_) (fun hz => ?_)
      · skip
        exfalso
        simp at hz
        omega
      · skip
        refine ARun.skip (ARun.seq (ARun.region ?_))
        refine y_op rfl (Zai rfl rfl rfl rfl rfl) ?_
        refine Zg1 rfl rfl rfl rfl (HC.frame1 (o' := ⟨nts .u8 (x :: l).reverse, Zh5, 1, true, none⟩) (ZkQ (x :: l) (by omega)) rfl rfl rfl rfl (pures_nts _) (pures_nts _) rfl getJ) ?_ (by rintro _ _ ⟨h, _⟩; cases h)
        rintro _ _ ⟨h, rfl⟩
        injection h with h
        subst h
        refine AOps.hp setJ ?_
        refine AOps.nil (ARun.seq (ARun.region ?_))
        refine y_op rfl (Zai rfl rfl rfl rfl rfl) ?_
        refine y_op rfl (Zlx (n := (x :: l).length) (l := (x :: l).reverse) rfl (by kernel_rfl) rfl rfl (srcD_row (o := ⟨nts .u8 (x :: l).reverse, Zh5, 1, true, none⟩) getJ) (by simp)) ?_
        refine y_op rfl (Zaa rfl) ?_
        refine AOps.nil ?_
        refine ARun.ret ?_
        exact ⟨⟨_, rfl, rfl, rfl⟩, _, _, _, .tmp rfl .nil, .cons (.same _) .nil, rfl, rfl⟩
  · rintro d H2 ⟨h, _⟩
    cases h
end Go.V
set_option maxHeartbeats 2000000
set_option synthInstance.maxSize 100000
set_option synthInstance.maxHeartbeats 2000000
namespace Go.V
open Go.RowKit Go.Proofs
def upN (n : Nat) : Nat := if 97 ≤ n ∧ n ≤ 122 then n - 32 else n
theorem up_byte (n : Nat) (h : n < 128) : Lib.upperB (UInt8.ofNat n) = UInt8.ofNat (upN n) := by
  have key : ∀ m : _root_.Fin 128, Lib.upperB (UInt8.ofNat m.val) = UInt8.ofNat (upN m.val) := by decide
  exact key ⟨n, h⟩
theorem up_bytes {l : List Nat} (h : ∀ n ∈ l, n < 128) : Lib.toUpperA (bytesOf l).data.toList = (l.map upN).map UInt8.ofNat := by
  unfold Lib.toUpperA bytesOf
  simp only [List.map_map]
  apply List.map_congr_left
  intro n hn
  exact up_byte n (h n hn)
theorem bytesOf_size (l : List Nat) : (bytesOf l).size = l.length := by simp [bytesOf, ByteArray.size]
theorem bytesOf_append (l m : List Nat) : bytesOf (l ++ m) = bytesOf l ++ bytesOf m := by
  apply ByteArray.ext
  simp [bytesOf]
theorem ZlE (l : List Nat) (h : ∀ n ∈ l, n < 128) (hl : l.length ≤ 140737488355328) : PC C Zen [.str (bytesOf l)] (fun o => o = .ret (.str (bytesOf (l.map upN)))) := by
  refine PC.of_below Zd1 (v := .string (bytesOf (l.map upN))) (fun _ _ _ _ => by simp only [VR]) fun w L μ H vs hv => ?_
  simp only [VRs, VR] at hv
  obtain ⟨v, us, rfl, rfl, rfl⟩ := hv
  have h1 := toUpper_calls (bytesOf l) w (by rw [bytesOf_size]; exact hl) (by
    intro j b hb
    have hm := List.mem_of_getElem? hb
    simp only [bytesOf, List.mem_map] at hm
    obtain ⟨n, hn, rfl⟩ := hm
    have := h n hn
    simp only [UInt8.toNat_ofNat']
    omega)
  rw [up_bytes h] at h1
  exact h1
def strZ (b : Nat) (up : Bool) (z : Int) : List Nat := (bif decide (z < 0) then [45] else []) ++ (bif up then (txt b z.natAbs).map upN else txt b z.natAbs)
def textR (d : Bool × List Nat) (base : Int) (up : Bool) : List Nat × Int := bif okI d && (decide (2 ≤ base) && decide (base ≤ 36)) then (strZ base.toNat up (valI d), 0) else ([], 1)
theorem txt_ascii {b : Nat} (hb : 2 ≤ b) (h36 : b ≤ 36) (v : Nat) : ∀ n ∈ txt b v, n < 128 := by
  intro n hn
  unfold txt at hn
  split at hn
  · simp at hn; omega
  · rw [List.mem_reverse] at hn
    obtain ⟨d, hd, rfl⟩ := List.mem_map.1 hn
    have := dgs_lt hb v d hd
    unfold fig; split <;> omega
theorem txt_len {b : Nat} (hb : 2 ≤ b) {a : Nat} (ha : (lim a).length ≤ 1024) : (txt b a).length ≤ 32768 := by
  unfold txt; split
  · decide
  · simpa using dgs_fit hb ha
theorem Zmk (d : Bool × List Nat) (hd : U32 d.2) (base : Int) (up : Bool) : PC C Ze1 [intA d.1 d.2, .int .i64 base, .bool up] (fun o => o = .ret (.tup [.str (bytesOf (textR d base up).1), .int .i64 (textR d base up).2])) := by
  refine PC.run ZdQ Zic rfl Zid rfl (rs := [.tmp 6, .tmp 7]) (by rw [Zie]) (by simp only [List.length_cons, List.length_nil, Nat.reduceAdd, Nat.reduceSub, List.replicate_succ, List.replicate_zero, List.cons_append, List.nil_append]; exact rfl) ?_
  refine ARun.seq (ARun.region ?_)
  refine y_op rfl (q_boxF rfl rfl rfl rfl) ?_
  refine y_op rfl (Zaa rfl) ?_
  refine y_op rfl (Zaa rfl) ?_
  refine AOps.nil (ARun.seq (ARun.seq (ARun.region ?_)))
  refine y_op rfl (Zad rfl rfl rfl rfl rfl) ?_
  refine y_op rfl (q_call rfl rfl (Zde d)) ?_
  refine y_op rfl (q_not rfl) ?_
  refine y_op rfl (q_move rfl) ?_
  refine AOps.bool 12 rfl (fun h1 => ?_) (fun h1 => ?_)
  · skip
    have h1 : okI d = false := by simpa using h1
    refine y_skip rfl ?_
    refine y_skip rfl ?_
    refine y_op rfl (q_pick rfl rfl rfl rfl) ?_
    refine y_op rfl (q_move rfl) ?_
    refine y_skip rfl ?_
    refine y_skip rfl ?_
    refine y_op rfl (q_pick rfl rfl rfl rfl) ?_
    refine AOps.nil ?_
    refine ARun.condT rfl ?_
    refine ARun.seq (ARun.region ?_)
    refine y_op rfl (Zaa rfl) ?_
    refine y_op rfl (Zaa rfl) ?_
    refine AOps.nil ?_
    refine ARun.ret ?_
    refine ⟨_, _, _, .tmp rfl (.tmp rfl .nil), .cons (.same _) (.cons (.same _) .nil), rfl, ?_⟩
    unfold textR; rw [h1]; rfl
  · skip
    have h1 : okI d = true := by simpa using h1
    obtain ⟨z, rfl, fz⟩ := okI_int hd h1
    refine y_op rfl (q_move rfl) ?_
    refine y_op rfl (q_int rfl rfl rfl) ?_
    refine y_op rfl (q_pick rfl rfl rfl rfl) ?_
    refine y_op rfl (q_move rfl) ?_
    refine AOps.bool 16 rfl (fun h2 => ?_) (fun h2 => ?_)
    · skip
      have h2 := of_decide_eq_true h2
      refine y_skip rfl ?_
      refine y_skip rfl ?_
      refine y_op rfl (q_pick rfl rfl rfl rfl) ?_
      refine AOps.nil ?_
      refine ARun.condT rfl ?_
      refine ARun.seq (ARun.region ?_)
      refine y_op rfl (Zaa rfl) ?_
      refine y_op rfl (Zaa rfl) ?_
      refine AOps.nil ?_
      refine ARun.ret ?_
      refine ⟨_, _, _, .tmp rfl (.tmp rfl .nil), .cons (.same _) (.cons (.same _) .nil), rfl, ?_⟩
      unfold textR; rw [h1, decide_eq_false (show ¬ 2 ≤ base by omega)]; rfl
    · skip
      have h2 := of_decide_eq_false h2
      refine y_op rfl (q_move rfl) ?_
      refine y_op rfl (q_int rfl rfl rfl) ?_
      refine y_op rfl (q_pick rfl rfl rfl rfl) ?_
      refine AOps.nil ?_
      refine ARun.cond rfl (fun h3 => ?_) (fun h3 => ?_)
      · skip
        have h3 := of_decide_eq_true h3
        refine ARun.seq (ARun.region ?_)
        refine y_op rfl (Zaa rfl) ?_
        refine y_op rfl (Zaa rfl) ?_
        refine AOps.nil ?_
        refine ARun.ret ?_
        refine ⟨_, _, _, .tmp rfl (.tmp rfl .nil), .cons (.same _) (.cons (.same _) .nil), rfl, ?_⟩
        unfold textR; rw [h1, decide_eq_true (show 2 ≤ base by omega), decide_eq_false (show ¬ base ≤ 36 by omega)]; rfl
      · skip
        have h3 := of_decide_eq_false h3
        obtain ⟨b, rfl⟩ : ∃ b : Nat, base = b := ⟨base.toNat, by omega⟩
        have hb2 : 2 ≤ b := by omega
        have hb36 : b ≤ 36 := by omega
        have hR : textR (decide (z < 0), lim z.natAbs) (b : Int) up = (strZ b up z, 0) := by
          unfold textR; rw [h1, decide_eq_true (show (2 : Int) ≤ (b : Int) by omega), decide_eq_true (show (b : Int) ≤ 36 by omega), valI_int]; rfl
        rw [hR]
        have hlen := txt_len hb2 (a := z.natAbs) fz
        refine ARun.skip (ARun.seq (ARun.region ?_))
        refine y_op rfl (q_fldS rfl rfl rfl (by decide)) ?_
        refine y_op rfl (q_load rfl rfl rfl rfl) ?_
        refine y_op rfl (q_move rfl) ?_
        refine y_op rfl (q_call rfl rfl (Zmj z.natAbs b fz hb2 hb36)) ?_
        refine y_op rfl (Zaa rfl) ?_
        refine AOps.nil (ARun.seq (ARun.seq (ARun.region ?_)))
        refine y_op rfl (q_move rfl) ?_
        refine AOps.nil ?_
        refine ARun.join (S := List Nat) (fun l : List Nat => [(25, .any), (26, .any), (8, .str (bytesOf l))]) (fun l : List Nat => l = (bif up then (txt b z.natAbs).map upN else txt b z.natAbs)) (fun run => ?_) ?_
        · skip
          refine ARun.cond rfl (fun h4 => ?_) (fun h4 => ?_)
          · skip
            refine ARun.region ?_
            refine y_op rfl (q_move rfl) ?_
            refine y_op rfl (q_call rfl rfl (ZlE (txt b z.natAbs) (txt_ascii hb2 hb36 _) (by omega))) ?_
            refine y_op rfl (Zaa rfl) ?_
            refine AOps.nil ?_
            exact ARun.again (run ((txt b z.natAbs).map upN) ((by rw [h4]; rfl))) (by (repeat' first | exact envLe_nil | apply envLe_any | apply envLe_same)) rfl
          · skip
            refine ARun.skip ?_
            exact ARun.again (run ((txt b z.natAbs)) ((by rw [h4]; rfl))) (by (repeat' first | exact envLe_nil | apply envLe_any | apply envLe_same)) rfl
        · rintro l hj
          try dsimp only at hj ⊢
          subst hj
          refine ARun.seq (ARun.seq (ARun.region ?_))
          refine y_op rfl (q_fldS rfl rfl rfl (by decide)) ?_
          refine y_op rfl (q_load rfl rfl rfl rfl) ?_
          refine AOps.nil ?_
          refine ARun.join (S := List Nat) (fun l : List Nat => [(29, .any), (30, .any), (8, .str (bytesOf l))]) (fun l : List Nat => l = strZ b up z) (fun run => ?_) ?_
          · skip
            refine ARun.cond rfl (fun h5 => ?_) (fun h5 => ?_)
            · skip
              refine ARun.region ?_
              refine y_op rfl (q_move rfl) ?_
              refine y_op rfl (Zmv rfl rfl (by rw [bytesOf_size]; show 1 + _ ≤ _; cases up <;> simp <;> omega)) ?_
              rw [show (⟨#[45]⟩ : ByteArray) ++ bytesOf (bif up then (txt b z.natAbs).map upN else txt b z.natAbs) = bytesOf (strZ b up z) by unfold strZ; rw [h5]; exact (bytesOf_append [45] _).symm]
              refine y_op rfl (Zaa rfl) ?_
              refine AOps.nil ?_
              exact ARun.again (run ((strZ b up z)) (rfl)) (by (repeat' first | exact envLe_nil | apply envLe_any | apply envLe_same)) rfl
            · skip
              refine ARun.skip ?_
              exact ARun.again (run ((bif up then (txt b z.natAbs).map upN else txt b z.natAbs)) ((by unfold strZ; rw [h5]; rfl))) (by (repeat' first | exact envLe_nil | apply envLe_any | apply envLe_same)) rfl
          · rintro l hj
            try dsimp only at hj ⊢
            subst hj
            refine ARun.seq (ARun.region ?_)
            refine y_op rfl (q_move rfl) ?_
            refine y_op rfl (Zaa rfl) ?_
            refine y_op rfl (Zaa rfl) ?_
            refine AOps.nil ?_
            refine ARun.ret ?_
            refine ⟨_, _, _, .tmp rfl (.tmp rfl .nil), .cons (.same _) (.cons (.same _) .nil), rfl, ?_⟩
            rfl
end Go.V
