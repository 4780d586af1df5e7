/- A part of the proof: abstract values, rules for the steps of the program's form, and contracts of its functions, each proved; no condition. -/
import Derived.Test.YtjohcjagbodicaaGreatDoorA10
set_option linter.unusedVariables false
set_option linter.unusedSimpArgs false
/- STATEMENTS THAT DRAW THEIR ORDER, order by order. -/
namespace Go.V
open Go.RowKit
def orders (l : List Oper) (m : Nat) : Nat → List Nat → List (List Nat)
  | 0, _ => [List.range' m (l.length - m)]
  | f + 1, und => (und.filter fun i => und.all fun j => !hasE l i j).flatMap fun i => (orders l m f (und.erase i)).map (i :: ·)
theorem orders_all {l : List Oper} {m : Nat} (ok : OkD l m) (hm : m ≤ l.length) (fuel t : Nat) (hf : l.length = fuel) :
    Region.linearise.go .any l.toArray fuel t (Array.replicate l.length false) [] ∈ orders l m m (List.range m) := by
  have hlst : lst (Array.replicate l.length false) = fun _ => false := by
    funext j
    unfold lst
    rw [Array.getD_eq_getD_getElem?, Array.getElem?_replicate]
    split <;> rfl
  have main := draw_all ok hm (fun S rest => ∀ und : List Nat, und.Nodup → (∀ j, j ∈ und ↔ j < m ∧ S j = false) → rest ∈ orders l m und.length und)
    (by
      intro und _ h
      have : und = [] := by
        rcases und with _ | ⟨a, r⟩
        · rfl
        have := (h a).1 (List.mem_cons_self ..)
        simp at this
        omega
      subst this
      simp [orders])
    (by
      intro S i rest him hS hlt hedge _ hP und hnd h
      have hi : i ∈ und := (h i).2 ⟨him, hS⟩
      have hlen : und.length = (und.erase i).length + 1 := by
        rw [List.length_erase_of_mem hi]
        have := List.length_pos_of_mem hi
        omega
      rw [hlen]
      refine List.mem_flatMap.2 ⟨i, List.mem_filter.2 ⟨hi, List.all_eq_true.2 fun j hj => ?_⟩, List.mem_map.2 ⟨rest, ?_, rfl⟩⟩
      · cases hE : hasE l i j with
        | false => rfl
        | true =>
          have h1 := hedge j hE
          have h2 := ((h j).1 hj).2
          rw [h1] at h2; cases h2
      refine hP _ (hnd.erase i) fun j => ?_
      rw [hnd.mem_erase_iff, h j]
      constructor
      · rintro ⟨h1, h2, h3⟩; exact ⟨h2, by rw [upd_ne S h1]; exact h3⟩
      rintro ⟨h1, h2⟩
      have hne : j ≠ i := by rintro rfl; rw [upd_same] at h2; cases h2
      exact ⟨hne, h1, by rw [upd_ne S hne] at h2; exact h2⟩)
    fuel t (Array.replicate l.length false) (by simp) (by simp [hf]) (by
      intro j hj
      rw [hlst] at hj
      cases hj)
  rw [hlst] at main
  have := main (List.range m) List.nodup_range (fun j => by simp)
  simpa using this
theorem allOf {α : Type} {P : α → Prop} {l l' : List α} (h : l = l') (h2 : ∀ x ∈ l', P x) : ∀ x ∈ l, P x := h ▸ h2
theorem consAll {α : Type} {P : α → Prop} {a : α} {l : List α} (h : P a) (h2 : ∀ x ∈ l, P x) : ∀ x ∈ a :: l, P x := fun x hx => by
  rcases List.mem_cons.1 hx with rfl | hx
  · exact h
  exact h2 x hx
theorem nilAll {α : Type} {P : α → Prop} : ∀ x ∈ ([] : List α), P x := fun _ h => by cases h
section
variable {C : Ctx} {Q : Post} {k : List Item} {env env' : List D} {H H' : Heap} {df : List ADef} {l : List Oper} {ops : Array Oper} {o : Oper} {i : Nat} {is : List Nat} {d : D}
theorem ARun.drawnAll {id : Nat} (m : Nat) (hmix : C.P.follows .mixedOrders = true) (hm : Nat.ble m l.length = true) (hB : okDraw l m = true)
    (hk : ∀ ord ∈ orders l m m (List.range m), ARun C Q (.inRegion l.toArray ord :: k) env H df) : ARun C Q (.code (.region id l.toArray true) :: k) env H df := by
  refine ⟨fun L0 w0 μ0 H0 w μ a hs hv hd he b cs hrd => ?_⟩
  have hst := stepR_region_draw (P := C.P) (b := b) (a := a) (k := k) (cs := cs) (w := w) (ops := l.toArray) (id := id)
  simp only [Region.schedule, hmix, Bool.true_or, if_true] at hst
  have hrun := hk _ (orders_all (OkD.of hB) (Nat.le_of_ble_eq_true hm) l.length (w.tape w.drawn (.order b.fn id)) rfl)
  have hstep : Step w { w with drawn := w.drawn + 1 } (forb L0 μ H) (forb L0 μ H) μ μ H H :=
    ⟨Nat.le_refl _, fun _ _ _ => rfl, fun _ _ h => h, fun _ _ h => h, fun i x hx => ⟨x, hx, fun o e => ⟨o, e, rfl, rfl, rfl, fun b cur _ h => ⟨cur, h, rfl⟩⟩⟩⟩
  have hevo : Evo w { w with drawn := w.drawn + 1 } μ μ H H :=
    ⟨rfl, rfl, rfl, Nat.le_refl _, fun _ _ _ => rfl, fun _ _ h => h, fun _ _ h => h, fun i x hx => ⟨x, hx, fun o e => ⟨o, e, rfl, rfl, rfl, fun b cur _ h => ⟨cur, h, rfl⟩⟩⟩⟩
  have hs' : SR C L0 { w with drawn := w.drawn + 1 } μ H := hs.next hevo hs.len (fun i o b h1 h2 => (hs.obj i o b h1 h2).same rfl) hs.inj hs.own
  obtain ⟨e', a', w', h5, h6⟩ := hrun.out L0 w0 μ0 H0 _ μ a hs' (VRs.step hstep hv) (DfR.step hstep hd) (he.trans hevo) b cs (hrd.step hevo.map)
  exact ⟨e', a', w', h5, .of_steps (.one hst) h6⟩
structure AOne (C : Ctx) (Q : Post) (ops : Array Oper) (o : Oper) (is : List Nat) (k : List Item) (env : List D) (H : Heap) (df : List ADef) : Prop where
  mk :: (out : ∀ i : Nat, ops[i]? = some o → ARun C Q (.inRegion ops (i :: is) :: k) env H df)
theorem yo_opH {K KP : D → Heap → Prop} (hg : gOk ops.toList env o.guard = some true) (h : OpH C o env H K KP) (hk : ∀ d H', K d H' → ARun C Q (.inRegion ops is :: k) (envPut env o.dst d) H' df) (hp : ∀ d H', KP d H' → Q (.pan d) env H' df) :
    AOne C Q ops o is k env H df := by
  refine ⟨fun i ho => ⟨fun L0 w0 μ0 H0 w μ a hs hv hd he b cs hrd => ?_⟩⟩
  have hw := gOk_ok (C := C) hv hg
  have h1 := h.out L0 w μ a hs hv
  rcases op_step (rest := is) ho hw h1 (by rintro ⟨a0, w1, v, d, H', μ', h2, _⟩; cases h2) b (.inr fun dd w' ⟨v, d, H', μ', _, h2, _⟩ => no_defer h2) k cs with
    ⟨a', w', ⟨v, d, H', μ', hK, rfl, hs', hd', he'⟩, hst⟩ | ⟨chain, w', todo, ⟨v, d, H', μ', hch, _, hK, hs', hd', he'⟩, hst⟩
  · have hst' := he'.step L0
    have h2 := (hk d H' hK).out L0 w0 μ0 H0 w' μ' (a.put o.dst v) hs' (VRs_put (VRs.step hst' hv) hd') (by rw [put_defers]; exact DfR.step hst' hd) (he.trans he') b cs (hrd.step he'.map)
    obtain ⟨e, a', w'', h3, h4⟩ := h2
    exact ⟨e, a', w'', h3, .of_steps hst h4⟩
  have hst' := he'.step L0
  injection hch with hch
  subst hch
  exact ⟨.panic (pan1 v), a, w', ⟨.pan d, env, H', μ', df, hp d H' hK, hs', VRs.step hst' hv, DfR.step hst' hd, ⟨v, rfl, hd'⟩, he.trans he'⟩, todo, hst⟩
class LAt (l : List Oper) (i : Nat) (o : outParam Oper) : Prop where
  eq : l[i]? = some o
instance LAt.zero {a : Oper} {l : List Oper} : LAt (a :: l) 0 a := ⟨rfl⟩
instance LAt.succ {a o : Oper} {l : List Oper} {n : Nat} [h : LAt l n o] : LAt (a :: l) (n + 1) o := ⟨by rw [List.getElem?_cons_succ]; exact h.eq⟩
theorem yo_at [h : LAt l i o] (hk : AOne C Q l.toArray o is k env H df) : ARun C Q (.inRegion l.toArray (i :: is) :: k) env H df := hk.out i (by simpa using h.eq)
theorem yo_op (hg : gOk ops.toList env o.guard = some true) (h : OpQ C o env H d) [hp : Put env o.dst d env'] (hk : ARun C Q (.inRegion ops is :: k) env' H df) : AOne C Q ops o is k env H df :=
  yo_opH hg h (fun d' H' ⟨h1, h2⟩ => by subst h1; subst h2; rw [hp.eq]; exact hk) (fun _ _ h => h.elim)
theorem yo_new (hg : gOk ops.toList env o.guard = some true) (h : OpN C o env H d H') [hp : Put env o.dst d env'] (hk : ARun C Q (.inRegion ops is :: k) env' H' df) : AOne C Q ops o is k env H df :=
  yo_opH hg h (fun d' h' ⟨h1, h2⟩ => by subst h1; subst h2; rw [hp.eq]; exact hk) (fun _ _ h => h.elim)
theorem yo_nil (h : ARun C Q k env H df) : ARun C Q (.inRegion ops [] :: k) env H df := ARun.quiet (fun _ _ _ _ => stepR_region_end) h
end
end Go.V
/- SLICES THAT GROW BY APPEND, where what became of the old rows is forgotten. -/
namespace Go.V
open Go.RowKit
def growT (J : Heap) (e : TypeId) : List D → Heap
  | [] => J
  | c :: cs => J ++ [some ⟨c :: cs, e, 1, true, none⟩]
def growD (k : Nat) : List D → D
  | [] => .nilsl
  | c :: cs => .row k (cs.length + 1)
class GrowL (H : Heap) (n : outParam Nat) (J : outParam Heap) (e : outParam TypeId) (cs : outParam (List D)) (F : outParam (Heap → Heap)) : Prop where
  prf : ∃ B : Heap, B.length = n ∧ H = B ++ growT J e cs ∧ F = fun X => B ++ X
instance GrowL.base {J : Heap} {e : TypeId} {cs : List D} : GrowL (growT J e cs) 0 J e cs (fun X => X) := ⟨[], rfl, rfl, rfl⟩
instance GrowL.cons {l : Heap} {b : Option AObj} {n : Nat} {J : Heap} {e : TypeId} {cs : List D} {F : Heap → Heap} [g : GrowL l n J e cs F] : GrowL (b :: l) (n + 1) J e cs (fun X => b :: F X) := by
  obtain ⟨B, h1, h2, h3⟩ := g.prf
  exact ⟨b :: B, by simp [h1], by rw [h2]; rfl, by rw [h3]; rfl⟩
section
variable {C : Ctx} {Q : Post} {k : List Item} {env env' : List D} {H H0 : Heap} {df : List ADef} {ops : Array Oper} {rest : List Oper} {i : Nat} {is : List Nat} {d dx : D}
variable {dst : Option Tmp} {ty : TypeId} {pos : String} {aft : Array Edge} {gd : Option (Nat × Bool)} {x y : Operand} {T e : TypeId} {te tee : TE} {n b S : Nat} {J : Heap} {cs : List D} {F : Heap → Heap} {zv : Value} {dz : D} {zs : List D}
theorem h_grow [g : GrowL H0 n J e cs F] (ht : C.ty T = some ⟨.slice e, S, b, zv⟩) (hee : C.ty e = some tee) (h1 : tee.size = 1) (hz : constD tee.zero = some dz) (hzs : cellsD dz = some zs) (hzl : zs.length = 1)
    (hx : evO C env x = some (growD (n + J.length) cs)) (hy : evO C env y = some (.row H0.length 1)) (hH : H = H0 ++ [some ⟨[dx], e, 1, true, none⟩]) (hb : (cs.length + 1) * tee.bytes ≤ 140737488355328) (hm : cs.length + 1 ≤ 1099511627776) :
    OpH C ⟨dst, .call ⟨.builtin .append, #[x, y], #[T, T]⟩, ty, pos, aft, gd⟩ env H (fun d H' => ∃ J' : Heap, d = growD (n + J'.length) (cs ++ [dx]) ∧ H' = F (growT J' e (cs ++ [dx]))) (fun _ _ => False) := by
  obtain ⟨B, g1, g2, g3⟩ := g.prf
  obtain ⟨sk, sz, sb, sv⟩ := tee
  subst h1
  subst g3
  subst hH
  subst g1
  have hsrc : srcD (H0 ++ [some ⟨[dx], e, 1, true, none⟩]) (.row H0.length 1) = some (1, [dx]) := by simp [srcD]
  replace hm : cs.length + 1 ≤ maxLen := by rw [maxLen_eq]; omega
  cases cs with
  | nil =>
    subst g2
    have h := Zhf (C := C) (dst := dst) (ty := ty) (pos := pos) (aft := aft) (gd := gd) (ty_slice ht) (ty_tic hee).1 (Nat.one_pos) hz hzs hzl hx hy hsrc rfl (by decide) (by simpa using hb) (by simpa using hm)
    refine OpH.mono ?_ (fun _ _ h => h) h
    rintro d H' ⟨rfl, rfl⟩
    refine ⟨J ++ [some ⟨[dx], e, 1, true, none⟩], ?_, ?_⟩
    · simp [growD, growT, Nat.add_assoc]
    simp [growT]
  | cons c cs =>
    subst g2
    have ho : (B ++ growT J e (c :: cs) ++ [some ⟨[dx], e, 1, true, none⟩])[B.length + J.length]? = some (some ⟨c :: cs, e, 1, true, none⟩) := by
      simp only [growT]
      rw [List.append_assoc, List.getElem?_append_right (by omega), Nat.add_sub_cancel_left, List.append_assoc, List.getElem?_append_right (by omega)]
      simp
    have h := Zjq (C := C) (dst := dst) (ty := ty) (pos := pos) (aft := aft) (gd := gd) (ty_slice ht) (ty_tic hee).1 (Nat.one_pos) hz hzs hzl (n := cs.length + 1) (m := 1) hx ho rfl rfl rfl hy hsrc rfl (by simpa using hb) (by simpa using hm)
    refine OpH.mono ?_ (fun _ _ h => h) h
    rintro d H' ⟨rfl, rfl⟩
    refine ⟨J ++ [none, some ⟨[dx], e, 1, true, none⟩], ?_, ?_⟩
    · simp [growD, growT, Nat.add_assoc]
    have e1 : ∀ r t : Option AObj, B ++ (J ++ [r]) ++ [t] = (B ++ J) ++ [r, t] := fun r t => by simp
    simp only [growT, List.cons_append]
    rw [e1, List.set_append_right _ _ (by simp), show B.length + J.length - (B ++ J).length = 0 by simp]
    simp
theorem y_grow [g : GrowL H0 n J e cs F] {E : Heap → List D} (hg : gOk ops.toList env gd = some true) (ht : C.ty T = some ⟨.slice e, S, b, zv⟩) (hee : C.ty e = some tee) (h1 : tee.size = 1) (hz : constD tee.zero = some dz) (hzs : cellsD dz = some zs) (hzl : zs.length = 1)
    (hx : evO C env x = some (growD (n + J.length) cs)) (hy : evO C env y = some (.row H0.length 1)) (hH : H = H0 ++ [some ⟨[dx], e, 1, true, none⟩]) (hb : (cs.length + 1) * tee.bytes ≤ 140737488355328) (hm : cs.length + 1 ≤ 1099511627776)
    [hp : ∀ J' : Heap, Put env dst (growD (n + J'.length) (cs ++ [dx])) (E J')] (hk : ∀ J' : Heap, AOps C Q ops rest k (E J') (F (growT J' e (cs ++ [dx]))) df) :
    AOps C Q ops (⟨dst, .call ⟨.builtin .append, #[x, y], #[T, T]⟩, ty, pos, aft, gd⟩ :: rest) k env H df :=
  AOps.opH hg (h_grow ht hee h1 hz hzs hzl hx hy hH hb hm) (fun d H' ⟨J', h1, h2⟩ => by subst h1; subst h2; have := (hp J').eq; simp only at this ⊢; rw [this]; exact hk J') (fun _ _ h => h.elim)
theorem yo_grow [g : GrowL H0 n J e cs F] {E : Heap → List D} (hg : gOk ops.toList env gd = some true) (ht : C.ty T = some ⟨.slice e, S, b, zv⟩) (hee : C.ty e = some tee) (h1 : tee.size = 1) (hz : constD tee.zero = some dz) (hzs : cellsD dz = some zs) (hzl : zs.length = 1)
    (hx : evO C env x = some (growD (n + J.length) cs)) (hy : evO C env y = some (.row H0.length 1)) (hH : H = H0 ++ [some ⟨[dx], e, 1, true, none⟩]) (hb : (cs.length + 1) * tee.bytes ≤ 140737488355328) (hm : cs.length + 1 ≤ 1099511627776)
    [hp : ∀ J' : Heap, Put env dst (growD (n + J'.length) (cs ++ [dx])) (E J')] (hk : ∀ J' : Heap, ARun C Q (.inRegion ops is :: k) (E J') (F (growT J' e (cs ++ [dx]))) df) :
    AOne C Q ops ⟨dst, .call ⟨.builtin .append, #[x, y], #[T, T]⟩, ty, pos, aft, gd⟩ is k env H df :=
  yo_opH hg (h_grow ht hee h1 hz hzs hzl hx hy hH hb hm) (fun d H' ⟨J', h1, h2⟩ => by subst h1; subst h2; have := (hp J').eq; simp only at this ⊢; rw [this]; exact hk J') (fun _ _ h => h.elim)
theorem ARun.growEnd [g : GrowL H n J e cs F] (t : Nat) (ht : env[t]? = some (growD (n + J.length) cs)) (hc : D.pure.pures cs = true) [hp : Put env (some t) (.sl cs.length cs) env'] (hk : ∀ J' : Heap, ARun C Q k env' (F J') df) : ARun C Q k env H df := by
  obtain ⟨B, g1, g2, g3⟩ := g.prf
  subst g3; subst g2; subst g1
  have hp := hp.eq
  subst hp
  have htl : t < env.length := (List.getElem?_eq_some_iff.1 ht).1
  cases cs with
  | nil =>
    have := hk J
    refine ⟨fun L0 w0 μ0 H0 w μ a hs hv hd he b cs hrd => this.out L0 w0 μ0 H0 w μ a hs ?_ hd he b cs hrd⟩
    refine VRs_mk (by rw [VRs_length hv]; simp [envPut]) fun j d v h1 h2 => ?_
    simp only [envPut, List.getElem?_set] at h1
    by_cases e : t = j
    · subst e
      simp only [htl, if_true] at h1
      injection h1 with h1; subst h1
      obtain ⟨v', h3, h4⟩ := VRs_get hv ht
      rw [h2] at h3; injection h3 with h3; subst h3
      exact Fz.ok (H := []) hs .nil (by simp) h4
    rw [if_neg e] at h1
    obtain ⟨v', h3, h4⟩ := VRs_get hv h1
    rw [h2] at h3; injection h3 with h3; subst h3; exact h4
  | cons c cs' =>
    have ho : (B ++ growT J e (c :: cs'))[B.length + J.length]? = some (some ⟨c :: cs', e, 1, true, none⟩) := by
      simp only [growT]
      rw [List.getElem?_append_right (by omega), Nat.add_sub_cancel_left, List.getElem?_append_right (by omega)]
      simp
    have hset : (B ++ growT J e (c :: cs')).set (B.length + J.length) (some ⟨c :: cs', e, 1, false, none⟩) = B ++ (J ++ [some ⟨c :: cs', e, 1, false, none⟩]) := by
      simp only [growT]
      rw [List.set_append_right _ _ (by omega), Nat.add_sub_cancel_left, List.set_append_right _ _ (by omega)]
      simp
    have hw : HWeak (B ++ growT J e (c :: cs')) (B ++ (J ++ [some ⟨c :: cs', e, 1, false, none⟩])) := by rw [← hset]; exact HWeak.one ho
    have := hk (J ++ [some ⟨c :: cs', e, 1, false, none⟩])
    refine ARun.weak hw ⟨fun L0 w0 μ0 H0 w μ a hs hv hd he b cs hrd => this.out L0 w0 μ0 H0 w μ a hs ?_ hd he b cs hrd⟩
    refine VRs_mk (by rw [VRs_length hv]; simp [envPut]) fun j d v h1 h2 => ?_
    simp only [envPut, List.getElem?_set] at h1
    by_cases e : t = j
    · subst e
      simp only [htl, if_true] at h1
      injection h1 with h1; subst h1
      obtain ⟨v', h3, h4⟩ := VRs_get hv ht
      rw [h2] at h3; injection h3 with h3; subst h3
      refine Fz.ok hs (.row ho hc) (fun i hi o ho' => ?_) h4
      simp only [List.mem_cons, List.not_mem_nil, or_false] at hi
      subst hi
      rw [ho] at ho'
      injection ho' with ho'; injection ho' with ho'; subst ho'
      rw [← hset]
      rw [List.getElem?_set_self (List.getElem?_eq_some_iff.1 ho).1]
    rw [if_neg e] at h1
    obtain ⟨v', h3, h4⟩ := VRs_get hv h1
    rw [h2] at h3; injection h3 with h3; subst h3; exact h4
theorem okCell_grow {B : Heap} {m : Nat} (hm : m = B.length + J.length) : okCell (B ++ growT J e cs) (growD m cs) = true := by
  subst hm
  cases cs with
  | nil => rfl
  | cons c cs =>
    have ho : (B ++ growT J e (c :: cs))[B.length + J.length]? = some (some ⟨c :: cs, e, 1, true, none⟩) := by
      simp only [growT]
      rw [List.getElem?_append_right (by omega), Nat.add_sub_cancel_left, List.getElem?_append_right (by omega)]
      simp
    simp only [okCell, growD, ho]; rfl
end
end Go.V
/- METHODS BOUND TO THEIR RECEIVERS. -/
set_option maxHeartbeats 1000000
namespace Go.V
open Go.RowKit Go.Proofs
section
variable {C : Ctx} {env : List D} {H : Heap} {dst : Option Tmp} {ty : TypeId} {pos : String} {aft : Array Edge} {gd : Option (Nat × Bool)} {x : Operand} {d : D}
end
section
variable {C : Ctx} {Q : Post} {k : List Item} {env env' : List D} {H : Heap} {df : List ADef} {ops : Array Oper} {rest : List Oper} {i : Nat} {is : List Nat} {d dx : D}
variable {dst : Option Tmp} {ty : TypeId} {pos : String} {aft : Array Edge} {gd : Option (Nat × Bool)} {x y : Operand} {T e : TypeId} {te tee : TE} {n b S : Nat} {J : Heap} {cs : List D} {F : Heap → Heap} {zv : Value} {dz : D} {zs : List D}
theorem Zoi [g : GrowL H n J e cs F] (ht : C.ty T = some ⟨.slice e, S, b, zv⟩) (hee : C.ty e = some tee) (h1 : tee.size = 1) (hz : constD tee.zero = some dz) (hzs : cellsD dz = some zs) (hzl : zs.length = 1)
    (hx : evO C env x = some (growD (n + J.length) cs)) (hy : evO C env y = some (.sl 1 [dx])) (hb : (cs.length + 1) * tee.bytes ≤ 140737488355328) (hm : cs.length + 1 ≤ 1099511627776) :
    OpH C ⟨dst, .call ⟨.builtin .append, #[x, y], #[T, T]⟩, ty, pos, aft, gd⟩ env H (fun d H' => ∃ J' : Heap, d = growD (n + J'.length) (cs ++ [dx]) ∧ H' = F (growT J' e (cs ++ [dx]))) (fun _ _ => False) := by
  obtain ⟨B, g1, g2, g3⟩ := g.prf
  obtain ⟨sk, sz, sb, sv⟩ := tee
  subst h1
  subst g3
  subst g1
  have hsrc : srcD H (.sl 1 [dx]) = some (1, [dx]) := rfl
  replace hm : cs.length + 1 ≤ maxLen := by rw [maxLen_eq]; omega
  cases cs with
  | nil =>
    subst g2
    have h := Zhf (C := C) (dst := dst) (ty := ty) (pos := pos) (aft := aft) (gd := gd) (ty_slice ht) (ty_tic hee).1 (Nat.one_pos) hz hzs hzl hx hy hsrc rfl (by decide) (by simpa using hb) (by simpa using hm)
    refine OpH.mono ?_ (fun _ _ h => h) h
    rintro d H' ⟨rfl, rfl⟩
    refine ⟨J, ?_, ?_⟩
    · simp [growD, growT]
    simp [growT]
  | cons c cs =>
    subst g2
    have ho : (B ++ growT J e (c :: cs))[B.length + J.length]? = some (some ⟨c :: cs, e, 1, true, none⟩) := by
      simp only [growT]
      rw [List.getElem?_append_right (by omega), Nat.add_sub_cancel_left, List.getElem?_append_right (by omega)]
      simp
    have h := Zjq (C := C) (dst := dst) (ty := ty) (pos := pos) (aft := aft) (gd := gd) (ty_slice ht) (ty_tic hee).1 (Nat.one_pos) hz hzs hzl (n := cs.length + 1) (m := 1) hx ho rfl rfl rfl hy hsrc rfl (by simpa using hb) (by simpa using hm)
    refine OpH.mono ?_ (fun _ _ h => h) h
    rintro d H' ⟨rfl, rfl⟩
    refine ⟨J ++ [none], ?_, ?_⟩
    · simp [growD, growT, Nat.add_assoc]
    have e1 : ∀ r : Option AObj, B ++ (J ++ [r]) = (B ++ J) ++ [r] := fun r => by simp
    simp only [growT, List.cons_append]
    rw [e1, List.set_append_right _ _ (by simp), show B.length + J.length - (B ++ J).length = 0 by simp]
    simp
theorem Zns [g : GrowL H n J e cs F] {E : Heap → List D} (hg : gOk ops.toList env gd = some true) (ht : C.ty T = some ⟨.slice e, S, b, zv⟩) (hee : C.ty e = some tee) (h1 : tee.size = 1) (hz : constD tee.zero = some dz) (hzs : cellsD dz = some zs) (hzl : zs.length = 1)
    (hx : evO C env x = some (growD (n + J.length) cs)) (hy : evO C env y = some (.sl 1 [dx])) (hb : (cs.length + 1) * tee.bytes ≤ 140737488355328) (hm : cs.length + 1 ≤ 1099511627776)
    [hp : ∀ J' : Heap, Put env dst (growD (n + J'.length) (cs ++ [dx])) (E J')] (hk : ∀ J' : Heap, AOps C Q ops rest k (E J') (F (growT J' e (cs ++ [dx]))) df) :
    AOps C Q ops (⟨dst, .call ⟨.builtin .append, #[x, y], #[T, T]⟩, ty, pos, aft, gd⟩ :: rest) k env H df :=
  AOps.opH hg (Zoi ht hee h1 hz hzs hzl hx hy hb hm) (fun d H' ⟨J', h1, h2⟩ => by subst h1; subst h2; have := (hp J').eq; simp only at this ⊢; rw [this]; exact hk J') (fun _ _ h => h.elim)
end
end Go.V
/- AN ASSERTION THAT FAILS; reading a value of another type. -/
set_option maxHeartbeats 1000000
namespace Go.V
open Go.RowKit Go.Proofs
section
variable {C : Ctx} {env : List D} {H : Heap} {dst : Option Tmp} {ty : TypeId} {pos : String} {aft : Array Edge} {gd : Option (Nat × Bool)} {x : Operand} {T T' U xT : TypeId} {d dz : D} {te : TE}
theorem ZmH (ht : C.ty T = some te) (hc : conK te.k = true) (hz : constD te.zero = some dz) (hx : evO C env x = some (.iface T' d)) (hT : Nat.beq T' T = false) : OpQ C ⟨dst, .typeAssert x xT T true, ty, pos, aft, gd⟩ env H (.tup [dz, .bool false]) :=
  OpQ.of_run fun L w μ a he => by
    have ex := he _ _ hx
    simp only [VR] at ex
    obtain ⟨u, ex, hu⟩ := ex
    have hz' : VR w L μ H dz te.zero := constD_ok hz
    refine ⟨.tuple #[te.zero, .bool false], ?_, by simp only [VR, VRs]; exact ⟨[te.zero, .bool false], rfl, _, _, rfl, hz', _, _, rfl, rfl, rfl⟩⟩
    have hun := (ty_tic ht).1.run_un w
    have hzr := (ty_tic ht).1.run_zero w
    have hk := (C.ok T te ht).2
    have hTT : T' ≠ T := fun e => by rw [e] at hT; exact absurd (Nat.beq_refl T) (by rw [hT]; decide)
    have hne : ∀ ms, tkDesc C.P T ≠ .interface ms := by
      intro ms e
      have hu2 := (ty_tic ht).1.un
      rw [e] at hu2
      cases hkk : te.k <;> rw [hkk] at hk hc <;> simp only [TKok] at hk <;> first | (cases hc; done) | (rw [hu2] at hk; cases hk; done) | (obtain ⟨_, h1, _⟩ := hk; rw [hu2] at h1; cases h1; done) | (obtain ⟨_, h1⟩ := hk; rw [hu2] at h1; cases h1)
    simp only [execOp, ex, Instr.typeAssert, Sem.run_bind, hun, Result.andThen_ok]
    generalize tkDesc C.P T = dsc at hne
    cases dsc <;> first | (exact (hne _ rfl).elim) | simp [hTT, hzr]
end
instance GrowL.app {B J : Heap} {e : TypeId} {cs : List D} : GrowL (B ++ growT J e cs) B.length J e cs (fun X => B ++ X) := ⟨B, rfl, rfl, rfl⟩
end Go.V
set_option maxHeartbeats 4000000
set_option maxRecDepth 100000
set_option synthInstance.maxSize 100000
set_option synthInstance.maxHeartbeats 2000000
namespace Go.V
open Go.RowKit Go.Proofs
abbrev intO (n : Int) : Option AObj := some ⟨[.int .i64 n], t_int, 1, true, none⟩
abbrev wrongW (n : Int) : D := .iface 216 (.agg [.int .i64 n])
theorem dct_ret (H : Heap) (i j : Nat) : DC C Zbu H [.ptr i 0, .ptr j 0] .returning (fun m' H' => m' = .returning ∧ H' = H) := by
  refine DC.of_run1 ZbG Zco rfl Zcp (by rw [Zcq]) (fun _ h => by cases h) (by simp only [List.length_cons, List.length_nil, Nat.reduceAdd, Nat.reduceSub, List.replicate_succ, List.replicate_zero, List.cons_append, List.nil_append, recD, envPut, List.set_cons_succ, List.set_cons_zero]; exact rfl) ?_
  refine ARun.block (ARun.seq (ARun.region ?_))
  refine y_op rfl (ZkN (by kernel_rfl) rfl) ?_
  refine AOps.nil ?_
  refine ARun.condT rfl ?_
  refine ARun.region ?_; refine xa ?_; refine AOps.nil (ARun.inBlock ?_)
  refine ARun.nil ?_
  exact ⟨rfl, rfl, rfl⟩
theorem set_ne {α : Type} {H : List α} {i j : Nat} {x : α} (h : i ≠ j) : (H.set i x)[j]? = H[j]? := by
  rw [List.getElem?_set_ne h]
theorem dct_fail (H : Heap) (i j : Nat) (e0 n0 e : Int) (h : H[i]? = some (errO e0)) (h2 : H[j]? = some (intO n0)) (hij : i ≠ j) : DC C Zbu H [.ptr i 0, .ptr j 0] (.panicking (failW e)) (fun m' H' => m' = .recovered (failW e) ∧ H' = ((H.set i (errO e)).set j (intO 0) : Heap)) := by
  have h3 : (H.set i (errO e))[j]? = some (intO n0) := by rw [set_ne hij]; exact h2
  refine DC.of_run1 ZbG Zco rfl Zcp (by rw [Zcq]) (fun _ h => by cases h) (by simp only [List.length_cons, List.length_nil, Nat.reduceAdd, Nat.reduceSub, List.replicate_succ, List.replicate_zero, List.cons_append, List.nil_append, recD, envPut, List.set_cons_succ, List.set_cons_zero]; exact rfl) ?_
  refine ARun.block (ARun.seq (ARun.region ?_))
  refine y_op rfl (q_ifEq (by kernel_rfl) rfl) ?_
  refine AOps.nil ?_
  refine ARun.condF rfl ?_
  refine ARun.seq (ARun.region ?_)
  refine y_op rfl (ZmH rfl rfl rfl rfl rfl) ?_
  refine xe ?_; refine xe ?_; refine AOps.nil ?_
  refine ARun.condF rfl ?_
  refine ARun.seq (ARun.region ?_)
  refine y_op rfl (Zcg rfl rfl rfl) ?_
  refine xe ?_; refine xe ?_; refine AOps.nil ?_
  refine ARun.condT rfl ?_
  refine ARun.seq (ARun.region ?_)
  refine ZbL rfl rfl rfl rfl rfl rfl rfl rfl rfl rfl rfl ?_
  refine AOps.nil (ARun.region ?_); refine xm ?_; refine xm ?_; refine xf ?_; refine xl ?_
  refine y_op rfl (q_nil rfl rfl) ?_
  refine y_new rfl (Zad rfl rfl rfl rfl h rfl (Nat.le_of_ble_eq_true rfl) rfl) ?_
  refine y_op rfl (q_nil rfl rfl) ?_
  refine y_new rfl (Zad rfl rfl rfl rfl h3 rfl (Nat.le_of_ble_eq_true rfl) rfl) ?_
  refine AOps.nil (ARun.inBlock ?_)
  refine ARun.nil ?_
  exact ⟨rfl, rfl, rfl⟩
theorem dct_wrong (H : Heap) (i j : Nat) (e0 n0 n : Int) (h : H[i]? = some (errO e0)) (h2 : H[j]? = some (intO n0)) (hij : i ≠ j) : DC C Zbu H [.ptr i 0, .ptr j 0] (.panicking (wrongW n)) (fun m' H' => m' = .recovered (wrongW n) ∧ H' = ((H.set i (errO 6)).set j (intO n) : Heap)) := by
  have h3 : (H.set i (errO 6))[j]? = some (intO n0) := by rw [set_ne hij]; exact h2
  refine DC.of_run1 ZbG Zco rfl Zcp (by rw [Zcq]) (fun _ h => by cases h) (by simp only [List.length_cons, List.length_nil, Nat.reduceAdd, Nat.reduceSub, List.replicate_succ, List.replicate_zero, List.cons_append, List.nil_append, recD, envPut, List.set_cons_succ, List.set_cons_zero]; exact rfl) ?_
  refine ARun.block (ARun.seq (ARun.region ?_))
  refine y_op rfl (q_ifEq (by kernel_rfl) rfl) ?_
  refine AOps.nil ?_
  refine ARun.condF rfl ?_
  refine ARun.seq (ARun.region ?_)
  refine y_op rfl (Zcg rfl rfl rfl) ?_
  refine xe ?_; refine xe ?_; refine AOps.nil ?_
  refine ARun.condT rfl ?_
  refine ARun.seq (ARun.region ?_)
  refine ZbL rfl rfl rfl rfl rfl rfl rfl rfl rfl rfl rfl ?_
  refine AOps.nil ?_
  refine ARun.drawnG (n := 6) (fun S : Nat → Bool => bif S 5 then H.set i (errO 6) else H) [] (fun _ => False) (sk := []) mixC rfl rfl (by kernel_rfl) rfl (by kernel_rfl) rfl (fun _ _ _ h => h.elim) ?_
  refine DChG.op rfl (fun _ => q_move rfl) (fun _ => rfl) rfl rfl ?_
  refine DChG.op rfl (fun _ => q_move rfl) (fun _ => rfl) rfl rfl ?_
  refine DChG.op rfl (fun _ => q_fldS rfl rfl rfl (by decide)) (fun _ => rfl) rfl rfl ?_
  refine DChG.op rfl (fun _ => q_load rfl rfl rfl rfl) (fun _ => rfl) rfl rfl ?_
  refine DChG.op rfl (fun _ => q_nil rfl rfl) (fun _ => rfl) rfl rfl ?_
  refine DChG.stC rfl (fun S hn hd hc => OpN.both (H1 := bif false then H.set i (errO 6) else H) (H3 := bif true then H.set i (errO 6) else H) (by simp only [hn]) rfl (Zad rfl rfl rfl rfl h rfl (Nat.le_of_ble_eq_true rfl) rfl)) rfl rfl ?_
  refine .nil (fun hG => AOps.fin (n := List.length (H.set i (errO 6))) (as' := []) (H' := H.set i (errO 6)) rfl rfl (List.append_nil _) ?_)
  refine y_op rfl (q_nil rfl rfl) ?_
  refine y_new rfl (Zad rfl rfl rfl rfl h3 rfl (Nat.le_of_ble_eq_true rfl) rfl) ?_
  refine AOps.nil (ARun.inBlock ?_)
  refine ARun.nil ?_
  exact ⟨rfl, rfl, rfl⟩
end Go.V
set_option synthInstance.maxSize 100000
set_option synthInstance.maxHeartbeats 2000000
namespace Go.V
open Go.RowKit Go.Proofs
def valI (d : Bool × List Nat) : Int := sgnd d.1 (val d.2)
theorem okI_int {d : Bool × List Nat} (hu : U32 d.2) (h : okI d = true) : ∃ z, d = (decide (z < 0), lim z.natAbs) ∧ fitZ z := by
  obtain ⟨b, xs⟩ := d
  simp only [okI, Bool.and_eq_true, Bool.or_eq_true, Bool.not_eq_true'] at h
  obtain ⟨a, ha, hl⟩ := okNat_lim hu h.1
  simp only at ha
  subst ha
  refine ⟨sgnd b a, ?_, ?_⟩
  · rw [sgnd_abs, sgnd_neg]
    congr 1
    rcases h.2 with h | h
    · rw [h]; rfl
    have : 0 < a := Nat.pos_of_ne_zero (ln_pos.1 (of_decide_eq_true h))
    rw [decide_eq_true this, Bool.and_true]
  rw [fitZ, sgnd_abs]; exact hl
theorem valI_int (z : Int) : valI (decide (z < 0), lim z.natAbs) = z := by
  unfold valI
  simp only [val_lim]
  by_cases h : z < 0
  · simp only [sgnd, decide_eq_true h, cond_true]; omega
  simp only [sgnd, decide_eq_false h, cond_false]; omega
theorem fitZ_neg {z : Int} (h : fitZ z) : fitZ (-z) := by unfold fitZ at *; rw [Int.natAbs_neg]; exact h
theorem okI2 {d1 d2 : Bool × List Nat} (h1 : U32 d1.2) (h2 : U32 d2.2) (h : [d1, d2].all okI = true) : ∃ x y, d1 = (decide (x < 0), lim x.natAbs) ∧ fitZ x ∧ d2 = (decide (y < 0), lim y.natAbs) ∧ fitZ y := by
  simp only [List.all_cons, List.all_nil, Bool.and_true, Bool.and_eq_true] at h
  obtain ⟨x, e1, f1⟩ := okI_int h1 h.1
  obtain ⟨y, e2, f2⟩ := okI_int h2 h.2
  exact ⟨x, y, e1, f1, e2, f2⟩
end Go.V
set_option synthInstance.maxSize 100000
set_option synthInstance.maxHeartbeats 2000000
namespace Go.V
open Go.RowKit Go.Proofs
abbrev kkeys : List D := [.int .i64 1, .int .i64 2, .int .i64 3, .int .i64 4]
abbrev kvals : List D := [.agg [.clos ZbQ []], .agg [.clos ZbR []], .agg [.clos ZbS []], .agg [.clos ZbT []]]
theorem ZmI : PC C ZiL [] (fun o => o = .ret (.mapv kkeys kvals)) := by
  refine PC.rn ZdF Zhy Zhz (rs := [.tmp 0]) (by rw [ZhA]) ?_
  refine ARun.seq (ARun.region ?_)
  refine y_op rfl (Zlx) ?_
  refine AOps.nil (ARun.seq (ARun.region ?_))
  refine y_new rfl (Znm (kt := 3) (et := 105) (by kernel_rfl) (.inl rfl)) ?_
  refine y_op rfl (Zal rfl rfl rfl rfl rfl) ?_
  refine y_new rfl (Zcv (kt := 3) (et := 105) (.inl rfl) (by kernel_rfl) (by kernel_rfl) rfl rfl rfl rfl rfl) ?_
  refine y_op rfl (Zal rfl rfl rfl rfl rfl) ?_
  refine y_new rfl (Zcv (kt := 3) (et := 105) (.inl rfl) (by kernel_rfl) (by kernel_rfl) rfl rfl rfl rfl rfl) ?_
  refine y_op rfl (Zal rfl rfl rfl rfl rfl) ?_
  refine y_new rfl (Zcv (kt := 3) (et := 105) (.inl rfl) (by kernel_rfl) (by kernel_rfl) rfl rfl rfl rfl rfl) ?_
  refine y_op rfl (Zal rfl rfl rfl rfl rfl) ?_
  refine y_new rfl (Zcv (kt := 3) (et := 105) (.inl rfl) (by kernel_rfl) (by kernel_rfl) rfl rfl rfl rfl rfl) ?_
  refine xm ?_; refine xa ?_; refine AOps.nil ?_
  have hz : Fz [mapO (kkeys.zip kvals)] (.mapp 0) (.mapv kkeys kvals) [0] := Fz.map (es := kkeys.zip kvals) rfl rfl rfl rfl
  refine ARun.ret ?_
  refine ⟨_, _, _, .tmp rfl .nil, .cons hz .nil, rfl, ?_⟩
  rfl
def kindF (how : Int) : Option FuncId :=
  if how = 1 then some ZbQ else if how = 2 then some ZbR else if how = 3 then some ZbS else if how = 4 then some ZbT else none
theorem find_kind (how : Int) : findI .i64 how (kkeys.zip kvals) = some ((kindF how).map fun f => .agg [.clos f []]) := by
  unfold kindF
  by_cases h1 : how = 1
  · subst h1; rfl
  by_cases h2 : how = 2
  · subst h2; rfl
  by_cases h3 : how = 3
  · subst h3; rfl
  by_cases h4 : how = 4
  · subst h4; rfl
  have e : ∀ k : Int, how ≠ k → (how == k) = false := fun k h => beq_eq_false_iff_ne.2 h
  simp only [kkeys, kvals, List.zip_cons_cons, List.zip_nil_right, findI, e 1 h1, e 2 h2, e 3 h3, e 4 h4, decide_true, cond_true, cond_false, if_neg h1, if_neg h2, if_neg h3, if_neg h4, Option.map_none]
def awayZ (how : Int) (q r a b : Int) : Bool :=
  if how = 2 then !(decide (a < 0) == decide (b < 0)) else if how = 3 then decide (a < 0) else if how = 4 then decide (b.natAbs < 2 * r.natAbs) || (decide (2 * r.natAbs = b.natAbs) && decide (q.natAbs % 2 = 1)) else false
theorem Zoj (q r a b : Int) : PC C ZbQ [intD q, intD r, intD a, intD b] (fun o => o = .ret (.bool (awayZ 1 q r a b))) := by
  refine PC.rn Zcz ZfF ZfG (rs := [.tmp 8]) (by rw [ZfH]) ?_
  refine ARun.seq (ARun.region ?_); refine xb ?_; refine xb ?_; refine xb ?_; refine xb ?_; refine xa ?_; refine AOps.nil (ARun.seq (ARun.region ?_)); refine xa ?_; refine AOps.nil ?_
  refine ARun.ret ?_
  refine ⟨_, _, _, .tmp rfl .nil, .cons (.same _) .nil, rfl, ?_⟩
  rfl
theorem Zok (q r a b : Int) : PC C ZbR [intD q, intD r, intD a, intD b] (fun o => o = .ret (.bool (awayZ 2 q r a b))) := by
  refine PC.rn ZcA ZfI ZfJ (rs := [.tmp 8]) (by rw [ZfK]) ?_
  refine ARun.seq (ARun.region ?_); refine xb ?_; refine xb ?_; refine xb ?_; refine xb ?_; refine xa ?_; refine AOps.nil (ARun.seq (ARun.region ?_)); refine xf ?_; refine xl ?_; refine xf ?_; refine xl ?_
  refine y_op rfl (Zbt rfl rfl rfl) ?_
  refine xa ?_; refine AOps.nil ?_
  refine ARun.ret ?_
  refine ⟨_, _, _, .tmp rfl .nil, .cons (.same _) .nil, rfl, ?_⟩
  rfl
theorem Zol (q r a b : Int) : PC C ZbS [intD q, intD r, intD a, intD b] (fun o => o = .ret (.bool (awayZ 3 q r a b))) := by
  refine PC.rn ZcB ZfL ZfM (rs := [.tmp 8]) (by rw [ZfN]) ?_
  refine ARun.seq (ARun.region ?_); refine xb ?_; refine xb ?_; refine xb ?_; refine xb ?_; refine xa ?_; refine AOps.nil (ARun.seq (ARun.region ?_)); refine xf ?_; refine xl ?_; refine xa ?_; refine AOps.nil ?_
  refine ARun.ret ?_
  refine ⟨_, _, _, .tmp rfl .nil, .cons (.same _) .nil, rfl, ?_⟩
  rfl
end Go.V
set_option synthInstance.maxSize 100000
set_option synthInstance.maxHeartbeats 2000000
namespace Go.V
open Go.RowKit Go.Proofs
theorem numD_one : D.sl 1 [.int .u32 1] = numD 1 := by rw [numD, lim_one]; rfl
theorem parity (n : Nat) (h : 0 < (lim n).length) : dig n 0 % 2 = n % 2 := by
  rw [dig, Nat.pow_zero, Nat.div_one]
  exact Nat.mod_mod_of_dvd n ⟨2147483648, rfl⟩
theorem Zom (q r a b : Int) (hr : fitZ r) (hb : fitZ b) (hrb : r.natAbs < b.natAbs) : PC C ZbT [intD q, intD r, intD a, intD b] (fun o => o = .ret (.bool (awayZ 4 q r a b))) := by
  have fin : ∀ c : Bool, c = (decide (b.natAbs < 2 * r.natAbs) || (decide (2 * r.natAbs = b.natAbs) && decide (q.natAbs % 2 = 1))) → c = awayZ 4 q r a b := fun c h => h
  have h1 : ∀ k : Int, k = cmpI r.natAbs (b.natAbs - r.natAbs) → (decide (k > 0) = decide (b.natAbs < 2 * r.natAbs)) ∧ (decide (k = 0) = decide (2 * r.natAbs = b.natAbs)) := by
    intro k hk
    subst hk
    unfold cmpI
    constructor <;> apply decide_eq_decide.2 <;> repeat' split
    all_goals omega
  refine PC.rn ZcC ZfO ZfP (rs := [.tmp 8]) (by rw [ZfQ]) ?_
  refine ARun.seq (ARun.region ?_); refine xb ?_; refine xb ?_; refine xb ?_; refine xb ?_; refine xa ?_; refine AOps.nil (ARun.seq ?_)
  refine ARun.drawnP 11 (fun _ => False) mixC rfl rfl (by kernel_rfl) (fun _ _ h => h.elim) ?_
  refine .op rfl (q_fldS rfl rfl rfl (by decide)) ?_
  refine .op rfl (q_load rfl rfl rfl rfl) ?_
  refine .op rfl (q_fldS rfl rfl rfl (by decide)) ?_
  refine .op rfl (q_load rfl rfl rfl rfl) ?_
  refine .op rfl (q_fldS rfl rfl rfl (by decide)) ?_
  refine .op rfl (q_load rfl rfl rfl rfl) ?_
  refine .op rfl (q_call rfl rfl (Ze7 (lim b.natAbs) (lim r.natAbs) (U32_lim _) (U32_lim _))) ?_
  refine .op rfl (ZaJ rfl rfl) ?_
  refine .op rfl (ZaJ rfl rfl) ?_
  refine .op rfl (q_call rfl rfl (must_sub hb hr (Nat.le_of_lt hrb))) ?_
  refine .op rfl (q_call rfl rfl (Zdr r.natAbs (b.natAbs - r.natAbs) hr (Nat.le_trans (ln_mono (Nat.sub_le _ _)) hb))) ?_
  refine .nil (fun hG => ?_)
  refine xa ?_; refine AOps.nil (ARun.seq (ARun.region ?_)); refine xm ?_; refine xi ?_; refine xm ?_
  obtain ⟨e1, e2⟩ := h1 _ rfl
  refine AOps.bool 23 rfl (fun g1 => ?_) (fun g1 => ?_)
  · skip
    refine xk ?_; refine xk ?_; refine xk ?_; refine xk ?_; refine xk ?_; refine xk ?_; refine xk ?_; refine xk ?_; refine xk ?_; refine xk ?_; refine xk ?_; refine xk ?_; refine xk ?_; refine xk ?_; refine xk ?_; refine xk ?_; refine xp ?_; refine xa ?_; refine AOps.nil ?_
    refine ARun.ret ?_
    refine ⟨_, _, _, .tmp rfl .nil, .cons (.same _) .nil, rfl, ?_⟩
    rw [← fin true (by rw [← e1, g1]; rfl)]
    rfl
  refine xm ?_; refine xi ?_; refine xm ?_
  refine AOps.bool 26 rfl (fun g2 => ?_) (fun g2 => ?_)
  · skip
    have g2' : cmpI r.natAbs (b.natAbs - r.natAbs) = 0 := by simpa using g2
    refine xf ?_; refine xl ?_; refine xN ?_; refine xi ?_; refine xp ?_; refine xm ?_
    refine AOps.bool 32 rfl (fun g3 => ?_) (fun g3 => ?_)
    · skip
      have g3' : 0 < (lim q.natAbs).length := by have := of_decide_eq_true g3; omega
      refine xf ?_; refine xl ?_
      refine y_op rfl (Zaj (i := (0 : Nat)) rfl rfl rfl rfl (by decide) (by omega) (nts_ne g3') (drop_nat rfl)) ?_
      refine y_op rfl (q_load rfl rfl rfl (lim_load g3')) ?_
      refine y_op rfl (q_rem rfl rfl (by decide) rfl) ?_
      refine xi ?_; refine xp ?_; refine xp ?_; refine xa ?_; refine AOps.nil ?_
      refine ARun.ret ?_
      refine ⟨_, _, _, .tmp rfl .nil, .cons (.same _) .nil, rfl, ?_⟩
      rw [← fin (decide (q.natAbs % 2 = 1)) (by rw [← e1, ← e2, g1, decide_eq_true g2']; rfl)]
      have : (((dig q.natAbs 0 : Nat) : Int).tmod 2 == 1) = decide (q.natAbs % 2 = 1) := by
        rw [← parity _ g3', show ((dig q.natAbs 0 : Nat) : Int).tmod 2 = ((dig q.natAbs 0 % 2 : Nat) : Int) from rfl]
        by_cases h : dig q.natAbs 0 % 2 = 1
        · rw [h]; rfl
        rw [decide_eq_false h]; exact beq_eq_false_iff_ne.2 (by omega)
      simp only [this, cond_true, cond_false]
      rfl
    have g3' : q.natAbs = 0 := by
      apply Classical.byContradiction
      intro h
      have := ln_pos.2 h
      have g := of_decide_eq_false g3
      omega
    refine xk ?_; refine xk ?_; refine xk ?_; refine xk ?_; refine xk ?_; refine xk ?_; refine xp ?_; refine xp ?_; refine xa ?_; refine AOps.nil ?_
    refine ARun.ret ?_
    refine ⟨_, _, _, .tmp rfl .nil, .cons (.same _) .nil, rfl, ?_⟩
    rw [← fin false (by rw [← e1, ← e2, g1, decide_eq_true g2', g3']; rfl)]
    rfl
  have g2' : ¬ cmpI r.natAbs (b.natAbs - r.natAbs) = 0 := by simpa using g2
  refine xk ?_; refine xk ?_; refine xk ?_; refine xk ?_; refine xp ?_; refine xm ?_; refine xk ?_; refine xk ?_; refine xk ?_; refine xk ?_; refine xk ?_; refine xk ?_; refine xp ?_; refine xp ?_; refine xa ?_; refine AOps.nil ?_
  refine ARun.ret ?_
  refine ⟨_, _, _, .tmp rfl .nil, .cons (.same _) .nil, rfl, ?_⟩
  rw [← fin false (by rw [← e1, ← e2, g1, decide_eq_false g2']; rfl)]
  rfl
end Go.V
set_option synthInstance.maxSize 100000
set_option synthInstance.maxHeartbeats 2000000
namespace Go.V
open Go.RowKit Go.Proofs
abbrev cellZ (z : Int) : Option AObj := some ⟨[.bool (decide (z < 0)), numD z.natAbs], Zjy, 1, true, none⟩
abbrev cell0 : Option AObj := some ⟨[.bool false, .nilsl], Zjy, 1, true, none⟩
theorem sgnd_tdiv (a b : Int) : sgnd (!(decide (a < 0) == decide (b < 0))) (a.natAbs / b.natAbs) = a.tdiv b := by
  have e1 : ∀ n : Nat, decide ((Int.ofNat n) < 0) = false := fun n => decide_eq_false (by simp)
  have e2 : ∀ n : Nat, decide ((Int.negSucc n) < 0) = true := fun n => decide_eq_true (Int.negSucc_lt_zero n)
  cases a <;> cases b <;> simp only [e1, e2] <;> rfl
theorem sgnd_tmod (a b : Int) : sgnd (decide (a < 0)) (a.natAbs % b.natAbs) = a.tmod b := by
  have e1 : ∀ n : Nat, decide ((Int.ofNat n) < 0) = false := fun n => decide_eq_false (by simp)
  have e2 : ∀ n : Nat, decide ((Int.negSucc n) < 0) = true := fun n => decide_eq_true (Int.negSucc_lt_zero n)
  cases a <;> cases b <;> simp only [e1, e2] <;> rfl
def stepZ (a b : Int) : Int := sgnd (!(decide (a < 0) == decide (b < 0))) 1
def divW (w : Bool) (a b : Int) : Int × Int :=
  if a.tmod b = 0 ∨ w = false then (a.tdiv b, a.tmod b) else (a.tdiv b + stepZ a b, a.tmod b + -(sgnd (decide (a < 0)) b.natAbs))
theorem fit_tdiv {a b : Int} (ha : fitZ a) : fitZ (a.tdiv b) := by
  unfold fitZ at *; rw [Int.natAbs_tdiv]; exact Nat.le_trans (ln_mono (Nat.div_le_self _ _)) ha
theorem fit_tmod {a b : Int} (hb : fitZ b) (h0 : b ≠ 0) : fitZ (a.tmod b) := by
  unfold fitZ at *
  rw [← sgnd_tmod, sgnd_abs]
  exact Nat.le_trans (ln_mono (Nat.le_of_lt (Nat.mod_lt _ (by omega)))) hb
theorem fit_mono {x y : Int} (h : x.natAbs ≤ y.natAbs) (hy : fitZ y) : fitZ x := Nat.le_trans (ln_mono h) hy
theorem abs_tmod (a b : Int) : (a.tmod b).natAbs = a.natAbs % b.natAbs := by rw [← sgnd_tmod, sgnd_abs]
theorem fit_q {a b : Int} (ha : fitZ a) (hr : a.tmod b ≠ 0) (hb : b ≠ 0) : fitZ (a.tdiv b + stepZ a b) := by
  have h1 : (a.tmod b).natAbs ≠ 0 := by omega
  rw [abs_tmod] at h1
  have hb1 : b.natAbs ≠ 1 := fun h => by rw [h, Nat.mod_one] at h1; exact h1 rfl
  have h2 : 2 ≤ b.natAbs := by omega
  have h3 : a.natAbs / b.natAbs + 1 ≤ a.natAbs := by
    have ha0 : 0 < a.natAbs := by
      apply Nat.pos_of_ne_zero
      intro h; rw [h, Nat.zero_mod] at h1; exact h1 rfl
    have := Nat.div_lt_self ha0 h2
    omega
  refine fit_mono ?_ ha
  rw [← sgnd_tdiv]
  unfold stepZ
  generalize a.natAbs / b.natAbs = q at *
  cases (!(decide (a < 0) == decide (b < 0))) <;> simp only [sgnd, cond_true, cond_false] <;> omega
theorem fit_r {a b : Int} (hb : fitZ b) (h0 : b ≠ 0) : fitZ (a.tmod b + -(sgnd (decide (a < 0)) b.natAbs)) := by
  refine fit_mono ?_ hb
  rw [← sgnd_tmod]
  have : a.natAbs % b.natAbs < b.natAbs := Nat.mod_lt _ (by omega)
  cases decide (a < 0) <;> simp only [sgnd, cond_true, cond_false] <;> omega
theorem Zlz (a b : Int) (ha : fitZ a) (hb : fitZ b) (h0 : b ≠ 0) (f : FuncId) (w : Bool) (hf : a.tmod b ≠ 0 → PC C f [intD (a.tdiv b), intD (a.tmod b), intD a, intD b] (fun o => o = .ret (.bool w))) : PC C ZhB [intD a, intD b, .agg [.clos f []]] (fun o => o = .ret (.tup [intD (divW w a b).1, intD (divW w a b).2])) := by
  have hres : resD (lim a.natAbs) (lim b.natAbs) = (a.natAbs / b.natAbs, a.natAbs % b.natAbs, 0) := by
    unfold resD; rw [okB_lim ha, okB_lim hb, val_lim, val_lim]
    have : (lim b.natAbs).length ≠ 0 := by have := ln_pos.2 (show b.natAbs ≠ 0 by omega); omega
    simp only [Bool.and_self, cond_true, if_neg this]
  have hdiv : PC C Zeq [numD a.natAbs, numD b.natAbs] (fun o => o = .ret (.tup [numD (a.natAbs / b.natAbs), numD (a.natAbs % b.natAbs), .int .i64 0])) := (Ze8 (lim a.natAbs) (lim b.natAbs) (U32_lim _) (U32_lim _)).mono fun o ho => by rw [ho, hres]
  have hq := Zam (!(decide (a < 0) == decide (b < 0))) (a.natAbs / b.natAbs)
  rw [sgnd_tdiv] at hq
  have hr := Zam (decide (a < 0)) (a.natAbs % b.natAbs)
  rw [sgnd_tmod] at hr
  have hz : (((lim (a.natAbs % b.natAbs)).length : Int) == 0) = decide (a.tmod b = 0) := by
    rw [Bool.eq_iff_iff, beq_iff_eq, decide_eq_true_iff, ← abs_tmod]
    constructor
    · intro h
      apply Classical.byContradiction
      intro hn
      have := ln_pos.2 (show (a.tmod b).natAbs ≠ 0 by omega)
      omega
    intro h; rw [h]; simp [lim_zero]
  refine PC.rn Zc5 Zgs Zgt (rs := [.cell 6 25, .cell 7 25]) (by rw [Zgu]) ?_
  refine ARun.seq (ARun.region ?_); refine xb ?_; refine xb ?_; refine xb ?_
  refine y_new rfl (Zag rfl rfl rfl rfl) ?_
  refine y_new rfl (Zag rfl rfl rfl rfl) ?_
  refine AOps.nil (ARun.seq (ARun.region ?_)); refine xf ?_; refine xl ?_; refine xf ?_; refine xl ?_
  refine xc rfl rfl (hdiv) ?_
  refine xm ?_; refine xe ?_; refine xe ?_; refine xe ?_; refine xa ?_; refine xa ?_; refine xa ?_; refine AOps.nil (ARun.seq (ARun.region ?_)); refine xm ?_; refine xi ?_; refine xm ?_
  refine y_gop rfl (g_call rfl rfl (PC.gp (Zbe _ 0))) (fun hg => ?_) (fun q hq => by obtain ⟨hq, rfl⟩ := hq; cases hq)
  refine AOps.nil (ARun.seq ?_)
  refine ARun.drawnG (n := 12) (fun S : Nat → Bool => [bif S 11 then cellZ (a.tdiv b) else cell0, cell0]) [] (fun _ => False) (sk := []) mixC rfl rfl (by kernel_rfl) rfl (by kernel_rfl) rfl (fun _ _ _ h => h.elim) ?_
  refine DChG.op rfl (fun _ => q_fldS rfl rfl rfl (by decide)) (fun _ => rfl) rfl rfl ?_
  refine DChG.opC rfl (fun S hn hd hc => OpQ.pre (H1 := [bif false then cellZ (a.tdiv b) else cell0, cell0]) (by simp only [(clF hc hn (by kernel_rfl) : S 11 = false)]) (q_load rfl rfl rfl rfl)) (fun _ => rfl) rfl rfl ?_
  refine DChG.op rfl (fun _ => q_fldS rfl rfl rfl (by decide)) (fun _ => rfl) rfl rfl ?_
  refine DChG.opC rfl (fun S hn hd hc => OpQ.pre (H1 := [bif false then cellZ (a.tdiv b) else cell0, cell0]) (by simp only [(clF hc hn (by kernel_rfl) : S 11 = false)]) (q_load rfl rfl rfl rfl)) (fun _ => rfl) rfl rfl ?_
  refine DChG.op rfl (fun _ => Zbt rfl rfl rfl) (fun _ => rfl) rfl rfl ?_
  refine DChG.op rfl (fun _ => q_move rfl) (fun _ => rfl) rfl rfl ?_
  refine DChG.op rfl (fun _ => q_call rfl rfl (hq)) (fun _ => rfl) rfl rfl ?_
  refine DChG.op rfl (fun _ => q_fldS rfl rfl rfl (by decide)) (fun _ => rfl) rfl rfl ?_
  refine DChG.op rfl (fun _ => q_load rfl rfl rfl rfl) (fun _ => rfl) rfl rfl ?_
  refine DChG.op rfl (fun _ => q_move rfl) (fun _ => rfl) rfl rfl ?_
  refine DChG.op rfl (fun _ => q_call rfl rfl (hr)) (fun _ => rfl) rfl rfl ?_
  refine DChG.stC rfl (fun S hn hd hc => OpN.both (H1 := [bif false then cellZ (a.tdiv b) else cell0, cell0]) (H3 := [bif true then cellZ (a.tdiv b) else cell0, cell0]) (by simp only [hn]) rfl (Zaa rfl rfl rfl rfl rfl rfl rfl rfl (Nat.le_of_ble_eq_true rfl) rfl)) rfl rfl ?_
  refine .nil (fun hG => AOps.fin (n := 2) (as' := []) (H' := [cellZ (a.tdiv b), cell0]) rfl rfl rfl ?_)
  refine y_new rfl (Zaa rfl rfl rfl rfl rfl rfl rfl rfl (Nat.le_of_ble_eq_true rfl) rfl) ?_
  refine AOps.nil (ARun.seq (ARun.seq (ARun.region ?_))); refine xm ?_; refine xN ?_; refine xi ?_; refine xm ?_
  refine AOps.bool 39 rfl (fun g => ?_) (fun g => ?_)
  · skip
    rw [hz] at g
    have g := of_decide_eq_true g
    refine xk ?_; refine xk ?_; refine xk ?_; refine xk ?_; refine xk ?_; refine xk ?_; refine xk ?_; refine xk ?_; refine xp ?_; refine AOps.nil ?_
    refine ARun.condT rfl ?_
    refine ARun.seq ?_
    refine ARun.drawnG (n := 3) (fun S : Nat → Bool => [cellZ (a.tdiv b), cellZ (a.tmod b)]) [] (fun _ => False) (sk := []) mixC rfl rfl (by kernel_rfl) rfl (by kernel_rfl) rfl (fun _ _ _ h => h.elim) ?_
    refine DChG.op rfl (fun _ => Zab rfl rfl rfl rfl rfl rfl) (fun _ => rfl) rfl rfl ?_
    refine DChG.op rfl (fun _ => Zab rfl rfl rfl rfl rfl rfl) (fun _ => rfl) rfl rfl ?_
    refine DChG.stC rfl (fun S hn hd hc => OpN.both (H1 := [cellZ (a.tdiv b), cellZ (a.tmod b)]) (H3 := [cellZ (a.tdiv b), cellZ (a.tmod b)]) rfl rfl (Zaa rfl rfl rfl rfl rfl rfl rfl rfl (Nat.le_of_ble_eq_true rfl) rfl)) rfl rfl ?_
    refine .nil (fun hG => AOps.fin (n := 2) (as' := []) (H' := [cellZ (a.tdiv b), cellZ (a.tmod b)]) rfl rfl rfl ?_)
    refine y_new rfl (Zaa rfl rfl rfl rfl rfl rfl rfl rfl (Nat.le_of_ble_eq_true rfl) rfl) ?_
    refine AOps.nil ?_
    refine ARun.ret ?_
    refine ⟨_, _, _, ResR.cellA rfl rfl rfl rfl rfl rfl (ResR.cellA rfl rfl rfl rfl rfl rfl .nil), .cons (.same _) (.cons (.same _) .nil), rfl, ?_⟩
    unfold divW; rw [if_pos (.inl g)]; rfl
  rw [hz] at g
  have g := of_decide_eq_false g
  refine xf ?_; refine xl ?_
  refine y_op rfl (Zab rfl rfl rfl rfl rfl rfl) ?_
  refine y_op rfl (Zab rfl rfl rfl rfl rfl rfl) ?_
  refine xL ?_; refine xL ?_
  refine xc rfl rfl (hf g) ?_
  refine xn ?_; refine xp ?_; refine AOps.nil ?_
  refine ARun.cond rfl (fun gw => ?_) (fun gw => ?_)
  · skip
    have gw : w = false := by simpa using gw
    refine ARun.seq ?_
    refine ARun.drawnG (n := 3) (fun S : Nat → Bool => [cellZ (a.tdiv b), cellZ (a.tmod b)]) [] (fun _ => False) (sk := []) mixC rfl rfl (by kernel_rfl) rfl (by kernel_rfl) rfl (fun _ _ _ h => h.elim) ?_
    refine DChG.op rfl (fun _ => Zab rfl rfl rfl rfl rfl rfl) (fun _ => rfl) rfl rfl ?_
    refine DChG.op rfl (fun _ => Zab rfl rfl rfl rfl rfl rfl) (fun _ => rfl) rfl rfl ?_
    refine DChG.stC rfl (fun S hn hd hc => OpN.both (H1 := [cellZ (a.tdiv b), cellZ (a.tmod b)]) (H3 := [cellZ (a.tdiv b), cellZ (a.tmod b)]) rfl rfl (Zaa rfl rfl rfl rfl rfl rfl rfl rfl (Nat.le_of_ble_eq_true rfl) rfl)) rfl rfl ?_
    refine .nil (fun hG => AOps.fin (n := 2) (as' := []) (H' := [cellZ (a.tdiv b), cellZ (a.tmod b)]) rfl rfl rfl ?_)
    refine y_new rfl (Zaa rfl rfl rfl rfl rfl rfl rfl rfl (Nat.le_of_ble_eq_true rfl) rfl) ?_
    refine AOps.nil ?_
    refine ARun.ret ?_
    refine ⟨_, _, _, ResR.cellA rfl rfl rfl rfl rfl rfl (ResR.cellA rfl rfl rfl rfl rfl rfl .nil), .cons (.same _) (.cons (.same _) .nil), rfl, ?_⟩
    unfold divW; rw [if_pos (.inr gw)]; rfl
  have gw : w = true := by simpa using gw
  have hdw : divW w a b = (a.tdiv b + stepZ a b, a.tmod b + -(sgnd (decide (a < 0)) b.natAbs)) := by
    unfold divW; rw [if_neg]; rintro (h | h)
    · exact g h
    rw [gw] at h; cases h
  have fitS : fitZ (stepZ a b) := by
    unfold fitZ stepZ; rw [sgnd_abs, lim_one]; decide
  have hstep : D.agg [.bool (!(decide (a < 0) == decide (b < 0))), numD 1] = intD (stepZ a b) := by
    unfold stepZ
    rw [intD, sgnd_abs, sgnd_neg]
    rw [show decide (0 < 1) = true from rfl, Bool.and_true]
  refine ARun.skip (ARun.seq (ARun.region ?_)); refine xf ?_; refine xl ?_; refine xf ?_; refine xl ?_
  refine y_op rfl (Zbt rfl rfl rfl) ?_
  refine y_op rfl (OpQ.cast (ZaB rfl rfl rfl rfl rfl rfl rfl rfl rfl rfl rfl (by decide) (by decide) rfl) numD_one) ?_
  refine y_op rfl (OpQ.cast (Zal rfl rfl rfl rfl rfl) hstep) ?_
  refine y_new rfl (Zag rfl rfl rfl rfl) ?_
  refine y_new rfl (Zaa rfl rfl rfl rfl rfl rfl rfl rfl (Nat.le_of_ble_eq_true rfl) rfl) ?_
  refine AOps.nil (ARun.seq ?_)
  refine ARun.drawnG (n := 12) (fun S : Nat → Bool => [bif S 11 then cellZ (a.tdiv b + stepZ a b) else cellZ (a.tdiv b), cellZ (a.tmod b), cellZ (stepZ a b)]) [] (fun _ => False) (sk := []) mixC rfl rfl (by kernel_rfl) rfl (by kernel_rfl) rfl (fun _ _ _ h => h.elim) ?_
  refine DChG.opC rfl (fun S hn hd hc => OpQ.pre (H1 := [bif false then cellZ (a.tdiv b + stepZ a b) else cellZ (a.tdiv b), cellZ (a.tmod b), cellZ (stepZ a b)]) (by simp only [(clF hc hn (by kernel_rfl) : S 11 = false)]) (Zab rfl rfl rfl rfl rfl rfl)) (fun _ => rfl) rfl rfl ?_
  refine DChG.opC rfl (fun S hn hd hc => OpQ.pre (H1 := [bif false then cellZ (a.tdiv b + stepZ a b) else cellZ (a.tdiv b), cellZ (a.tmod b), cellZ (stepZ a b)]) (by simp only [(clF hc hn (by kernel_rfl) : S 11 = false)]) (Zab rfl rfl rfl rfl rfl rfl)) (fun _ => rfl) rfl rfl ?_
  refine DChG.op rfl (fun _ => q_call rfl rfl ((Zb4 (a.tdiv b) (stepZ a b) (fit_tdiv ha) fitS).mono (fun o ho => (ho.resolve_right (fun h => h.1 (fit_q ha g h0))).2))) (fun _ => rfl) rfl rfl ?_
  refine DChG.op rfl (fun _ => Zab rfl rfl rfl rfl rfl rfl) (fun _ => rfl) rfl rfl ?_
  refine DChG.op rfl (fun _ => q_fldS rfl rfl rfl (by decide)) (fun _ => rfl) rfl rfl ?_
  refine DChG.op rfl (fun _ => q_load rfl rfl rfl rfl) (fun _ => rfl) rfl rfl ?_
  refine DChG.op rfl (fun _ => q_fldS rfl rfl rfl (by decide)) (fun _ => rfl) rfl rfl ?_
  refine DChG.op rfl (fun _ => q_load rfl rfl rfl rfl) (fun _ => rfl) rfl rfl ?_
  refine DChG.op rfl (fun _ => q_call rfl rfl (Zam (decide (a < 0)) b.natAbs)) (fun _ => rfl) rfl rfl ?_
  refine DChG.op rfl (fun _ => q_call rfl rfl (Zdq (sgnd (decide (a < 0)) b.natAbs))) (fun _ => rfl) rfl rfl ?_
  refine DChG.op rfl (fun _ => q_call rfl rfl ((Zb4 (a.tmod b) (-(sgnd (decide (a < 0)) b.natAbs)) (fit_tmod hb h0) (fitZ_neg (by unfold fitZ; rw [sgnd_abs]; exact hb))).mono (fun o ho => (ho.resolve_right (fun h => h.1 (fit_r hb h0))).2))) (fun _ => rfl) rfl rfl ?_
  refine DChG.stC rfl (fun S hn hd hc => OpN.both (H1 := [bif false then cellZ (a.tdiv b + stepZ a b) else cellZ (a.tdiv b), cellZ (a.tmod b), cellZ (stepZ a b)]) (H3 := [bif true then cellZ (a.tdiv b + stepZ a b) else cellZ (a.tdiv b), cellZ (a.tmod b), cellZ (stepZ a b)]) (by simp only [hn]) rfl (Zaa rfl rfl rfl rfl rfl rfl rfl rfl (Nat.le_of_ble_eq_true rfl) rfl)) rfl rfl ?_
  refine .nil (fun hG => AOps.fin (n := 3) (as' := []) (H' := [cellZ (a.tdiv b + stepZ a b), cellZ (a.tmod b), cellZ (stepZ a b)]) rfl rfl rfl ?_)
  refine y_new rfl (Zaa rfl rfl rfl rfl rfl rfl rfl rfl (Nat.le_of_ble_eq_true rfl) rfl) ?_
  refine AOps.nil ?_
  refine ARun.ret ?_
  refine ⟨_, _, _, ResR.cellA rfl rfl rfl rfl rfl rfl (ResR.cellA rfl rfl rfl rfl rfl rfl .nil), .cons (.same _) (.cons (.same _) .nil), rfl, ?_⟩
  rw [hdw]; rfl
end Go.V
set_option synthInstance.maxSize 100000
set_option synthInstance.maxHeartbeats 2000000
namespace Go.V
open Go.RowKit Go.Proofs
theorem kindF_pc {how : Int} {f : FuncId} (h : kindF how = some f) (a b : Int) (hb : fitZ b) (h0 : b ≠ 0) (q : Int) : PC C f [intD q, intD (a.tmod b), intD a, intD b] (fun o => o = .ret (.bool (awayZ how q (a.tmod b) a b))) := by
  unfold kindF at h
  by_cases h1 : how = 1
  · subst h1; rw [if_pos rfl] at h; injection h with h; subst h; exact Zoj q _ a b
  rw [if_neg h1] at h
  by_cases h2 : how = 2
  · subst h2; rw [if_pos rfl] at h; injection h with h; subst h; exact Zok q _ a b
  rw [if_neg h2] at h
  by_cases h3 : how = 3
  · subst h3; rw [if_pos rfl] at h; injection h with h; subst h; exact Zol q _ a b
  rw [if_neg h3] at h
  by_cases h4 : how = 4
  · subst h4; rw [if_pos rfl] at h; injection h with h; subst h
    exact Zom q _ a b (fit_tmod hb h0) hb (by rw [abs_tmod]; exact Nat.mod_lt _ (by omega))
  rw [if_neg h4] at h; cases h
def divR (how : Int) (ok : Bool) (a b : Int) : (Int × Int) × Int :=
  bif ok then (if kindF how = none then ((0, 0), 1) else if b = 0 then ((0, 0), 8) else (divW (awayZ how (a.tdiv b) (a.tmod b) a b) a b, 0)) else ((0, 0), 1)
theorem fit_divW {w : Bool} {a b : Int} (ha : fitZ a) (hb : fitZ b) (h0 : b ≠ 0) : fitZ (divW w a b).1 ∧ fitZ (divW w a b).2 := by
  unfold divW
  split
  · exact ⟨fit_tdiv ha, fit_tmod hb h0⟩
  rename_i h
  exact ⟨fit_q ha (fun e => h (.inl e)) h0, fit_r hb h0⟩
theorem ZnW (d1 d2 : Bool × List Nat) (h1 : U32 d1.2) (h2 : U32 d2.2) (how : Int) : PC C Zgh [intA d1.1 d1.2, intA d2.1 d2.2, .int .i64 how] (fun o => o = .ret (.tup [intD (divR how ([d1, d2].all okI) (valI d1) (valI d2)).1.1, intD (divR how ([d1, d2].all okI) (valI d1) (valI d2)).1.2, .int .i64 (divR how ([d1, d2].all okI) (valI d1) (valI d2)).2])) := by
  have pan : ∀ (e : Int) (env : List D) (tl : Heap), env[6]? = some (.ptr 0 0) → env[7]? = some (.ptr 1 0) → env[8]? = some (.ptr 2 0) → divR how ([d1, d2].all okI) (valI d1) (valI d2) = ((0, 0), e) → (QFin C [.cell 6 25, .cell 7 25, .cell 8 28] fun o x => o.pure = true ∧ o = .ret (.tup [intD (divR how ([d1, d2].all okI) (valI d1) (valI d2)).1.1, intD (divR how ([d1, d2].all okI) (valI d1) (valI d2)).1.2, .int .i64 (divR how ([d1, d2].all okI) (valI d1) (valI d2)).2])) (.pan (failW e)) env (cell0 :: cell0 :: errO 0 :: tl) [.fn Zbr [.ptr 2 0]] := by
    intro e env tl h6 h7 h8 hr
    refine DC.mono (dcw_pan _ 2 0 e rfl) ?_
    rintro _ _ ⟨rfl, rfl⟩
    exact ⟨_, _, _, ResR.cellA h6 rfl rfl rfl rfl rfl (ResR.cellA h7 rfl rfl rfl rfl rfl (ResR.cell1 h8 rfl rfl rfl rfl .nil)), .cons fz_int0 (.cons fz_int0 (.cons (.same _) .nil)), rfl, by rw [hr]; rfl⟩
  refine PC.rn Zfa Zjz ZjA (rs := [.cell 6 25, .cell 7 25, .cell 8 28]) (by rw [ZjB]) ?_
  refine ARun.seq (ARun.region ?_); refine xb ?_; refine xb ?_
  refine y_new rfl (Zag rfl rfl rfl rfl) ?_
  refine y_new rfl (Zag rfl rfl rfl rfl) ?_
  refine y_new rfl (Zag rfl rfl rfl rfl) ?_
  refine AOps.nil (ARun.seq (ARun.region ?_))
  refine Ze4 rfl rfl rfl ?_
  refine AOps.nil (ARun.seq (ARun.region ?_)); refine xL ?_; refine xL ?_
  refine y_op rfl (ZaB rfl rfl rfl rfl rfl rfl rfl rfl rfl rfl rfl (by decide) (by decide) rfl) ?_
  refine y_gop rfl (g_call rfl rfl (PC.gp (ZkQ [d1, d2] 2 rfl))) (fun hg => ?_) (fun q hq => by obtain ⟨hq, rfl⟩ := hq; exact pan 1 _ [] rfl rfl rfl (by rw [hq]; rfl))
  have hres := hg
  obtain ⟨a, b, rfl, fa, rfl, fb⟩ := okI2 h1 h2 hg
  rw [valI_int, valI_int] at pan ⊢
  rw [hres] at pan ⊢
  refine AOps.nil (ARun.seq (ARun.region ?_))
  refine y_op rfl (q_call (args := []) rfl rfl ZmI) ?_
  have hfk := find_kind how
  cases hk : kindF how with
  | none =>
    rw [hk] at hfk
    refine xm ?_
    refine y_op rfl (ZkK (kt := 3) (et := 105) (by kernel_rfl) (by kernel_rfl) rfl rfl rfl rfl rfl hfk) ?_
    refine xm ?_; refine xe ?_; refine xe ?_
    refine y_new rfl (Zag rfl rfl rfl rfl) ?_
    refine y_new rfl (Zaa rfl rfl rfl rfl rfl rfl rfl rfl (Nat.le_of_ble_eq_true rfl) rfl) ?_
    refine xa ?_; refine AOps.nil (ARun.seq (ARun.region ?_)); refine xm ?_
    refine y_gop rfl (g_call rfl rfl (PC.gp (Zbe _ 1))) (fun hg => by cases hg) (fun q hq => by obtain ⟨hq, rfl⟩ := hq; exact pan 1 _ [some ⟨[.nilfn], Za6, 1, true, none⟩] rfl rfl rfl (by unfold divR; rw [hk]; rfl))
  | some f =>
    rw [hk] at hfk
    refine xm ?_
    refine y_op rfl (ZkK (kt := 3) (et := 105) (by kernel_rfl) (by kernel_rfl) rfl rfl rfl rfl rfl hfk) ?_
    refine xm ?_; refine xe ?_; refine xe ?_
    refine y_new rfl (Zag rfl rfl rfl rfl) ?_
    refine y_new rfl (Zaa rfl rfl rfl rfl rfl rfl rfl rfl (Nat.le_of_ble_eq_true rfl) rfl) ?_
    refine xa ?_; refine AOps.nil (ARun.seq (ARun.region ?_)); refine xm ?_
    refine y_gop rfl (g_call rfl rfl (PC.gp (Zbe _ 1))) (fun hg => ?_) (fun q hq => by obtain ⟨hq, rfl⟩ := hq; cases hq)
    refine AOps.nil (ARun.seq (ARun.region ?_)); refine xf ?_; refine xl ?_; refine xN ?_; refine xi ?_
    refine y_gop rfl (g_call rfl rfl (PC.gp (Zbe _ 8))) (fun hz => ?_) (fun q hq => by obtain ⟨hq, rfl⟩ := hq; exact pan 8 _ [some ⟨[.clos f []], Za6, 1, true, none⟩] rfl rfl rfl (by have h : ¬ ((lim b.natAbs).length : Int) > 0 := of_decide_eq_false hq; have hb : b = 0 := (by apply Classical.byContradiction; intro hn; have := ln_pos.2 (show b.natAbs ≠ 0 by omega); omega); unfold divR; rw [hk, if_neg (by simp), if_pos hb]; rfl))
    have hb0 : b ≠ 0 := by
      have h : ((lim b.natAbs).length : Int) > 0 := of_decide_eq_true hz
      have := ln_pos.1 (show 0 < (lim b.natAbs).length by omega)
      omega
    have hfit := fit_divW (w := awayZ how (a.tdiv b) (a.tmod b) a b) fa fb hb0
    refine AOps.nil (ARun.seq (ARun.region ?_)); refine xL ?_; refine xL ?_
    refine y_op rfl (Zab rfl rfl rfl rfl rfl rfl) ?_
    refine xc rfl rfl (Zlz a b fa fb hb0 f (awayZ how (a.tdiv b) (a.tmod b) a b) (fun _ => kindF_pc hk a b fb hb0 _)) ?_
    refine xm ?_; refine xe ?_; refine xe ?_
    refine y_new rfl (Zaa rfl rfl rfl rfl rfl rfl rfl rfl (Nat.le_of_ble_eq_true rfl) rfl) ?_
    refine y_new rfl (Zaa rfl rfl rfl rfl rfl rfl rfl rfl (Nat.le_of_ble_eq_true rfl) rfl) ?_
    refine AOps.nil (ARun.seq ?_)
    refine ARun.drawnG (n := 5) (fun S : Nat → Bool => [cellZ (divW (awayZ how (a.tdiv b) (a.tmod b) a b) a b).1, cellZ (divW (awayZ how (a.tdiv b) (a.tmod b) a b) a b).2, errO 0, some ⟨[.clos f []], Za6, 1, true, none⟩]) [] (fun _ => False) (sk := []) mixC rfl rfl (by kernel_rfl) rfl (by kernel_rfl) rfl (fun _ _ _ h => h.elim) ?_
    refine DChG.op rfl (fun _ => Zab rfl rfl rfl rfl rfl rfl) (fun _ => rfl) rfl rfl ?_
    refine DChG.op rfl (fun _ => q_call rfl rfl (ZeC (divW (awayZ how (a.tdiv b) (a.tmod b) a b) a b).1 hfit.1)) (fun _ => rfl) rfl rfl ?_
    refine DChG.op rfl (fun _ => Zab rfl rfl rfl rfl rfl rfl) (fun _ => rfl) rfl rfl ?_
    refine DChG.op rfl (fun _ => q_call rfl rfl (ZeC (divW (awayZ how (a.tdiv b) (a.tmod b) a b) a b).2 hfit.2)) (fun _ => rfl) rfl rfl ?_
    refine DChG.stC rfl (fun S hn hd hc => OpN.both (H1 := [cellZ (divW (awayZ how (a.tdiv b) (a.tmod b) a b) a b).1, cellZ (divW (awayZ how (a.tdiv b) (a.tmod b) a b) a b).2, errO 0, some ⟨[.clos f []], Za6, 1, true, none⟩]) (H3 := [cellZ (divW (awayZ how (a.tdiv b) (a.tmod b) a b) a b).1, cellZ (divW (awayZ how (a.tdiv b) (a.tmod b) a b) a b).2, errO 0, some ⟨[.clos f []], Za6, 1, true, none⟩]) rfl rfl (Zaa rfl rfl rfl rfl rfl rfl rfl rfl (Nat.le_of_ble_eq_true rfl) rfl)) rfl rfl ?_
    refine .nil (fun hG => AOps.fin (n := 4) (as' := []) (H' := [cellZ (divW (awayZ how (a.tdiv b) (a.tmod b) a b) a b).1, cellZ (divW (awayZ how (a.tdiv b) (a.tmod b) a b) a b).2, errO 0, some ⟨[.clos f []], Za6, 1, true, none⟩]) rfl rfl rfl ?_)
    refine y_new rfl (Zaa rfl rfl rfl rfl rfl rfl rfl rfl (Nat.le_of_ble_eq_true rfl) rfl) ?_
    refine y_new rfl (Zad rfl rfl rfl rfl rfl rfl (Nat.le_of_ble_eq_true rfl) rfl) ?_
    refine AOps.nil ?_
    refine ARun.ret ?_
    refine DC.mono (dcw_ret _ 2) ?_
    rintro _ _ ⟨rfl, rfl⟩
    exact ⟨_, _, _, ResR.cellA rfl rfl rfl rfl rfl rfl (ResR.cellA rfl rfl rfl rfl rfl rfl (ResR.cell1 rfl rfl rfl rfl rfl .nil)), .cons (.same _) (.cons (.same _) (.cons (.same _) .nil)), rfl, by unfold divR; rw [hk, if_neg (by simp), if_neg hb0]; rfl⟩
end Go.V
set_option synthInstance.maxSize 100000
set_option synthInstance.maxHeartbeats 2000000
namespace Go.V
open Go.RowKit Go.Proofs
theorem Zap (n : Int) (h1 : -9223372036854775808 ≤ n) (h2 : n ≤ 9223372036854775807) : PC C Zgk [.int .i64 n] (fun o => o = .ret (intD n)) := by
  refine PC.rn Zcw Zfv Zfw (rs := [.cell 2 25]) (by rw [Zfx]) ?_
  refine ARun.seq (ARun.region ?_)
  refine y_new rfl (Zag rfl rfl rfl rfl) ?_
  refine AOps.nil (ARun.seq (ARun.seq (ARun.region ?_))); refine xm ?_; refine xi ?_; refine AOps.nil ?_
  refine ARun.ite rfl (fun h => ?_) (fun h => ?_)
  · skip
    have e1 : IntKind.u64.wrap n = n + 18446744073709551616 := by unfold IntKind.wrap; simp [IntKind.signed, IntKind.bits]; omega
    have e2 : IntKind.u64.wrap (0 - (n + 18446744073709551616)) = (n.natAbs : Int) := by unfold IntKind.wrap; simp [IntKind.signed, IntKind.bits]; omega
    refine ARun.seq (ARun.region ?_); refine xm ?_
    refine y_op rfl (q_conv rfl rfl rfl e1) ?_
    refine y_op rfl (q_neg rfl e2) ?_
    refine xc rfl rfl (Zbd n.natAbs (by omega)) ?_
    refine xc rfl rfl (Zam true n.natAbs) ?_
    refine y_new rfl (Zaa rfl rfl rfl rfl rfl rfl rfl rfl (Nat.le_of_ble_eq_true rfl) rfl) ?_
    refine AOps.nil ?_
    refine ARun.ret ?_
    refine ⟨_, _, _, ResR.cellA rfl rfl rfl rfl rfl rfl .nil, .cons (.same _) .nil, rfl, ?_⟩
    have : sgnd true n.natAbs = n := by simp only [sgnd, cond_true]; omega
    rw [this]; rfl
  have e1 : IntKind.u64.wrap n = (n.natAbs : Int) := by unfold IntKind.wrap; simp [IntKind.signed, IntKind.bits]; omega
  refine ARun.skip (ARun.seq (ARun.region ?_)); refine xm ?_
  refine y_op rfl (q_conv rfl rfl rfl e1) ?_
  refine xc rfl rfl (Zbd n.natAbs (by omega)) ?_
  refine xc rfl rfl (Zam false n.natAbs) ?_
  refine y_new rfl (Zaa rfl rfl rfl rfl rfl rfl rfl rfl (Nat.le_of_ble_eq_true rfl) rfl) ?_
  refine AOps.nil ?_
  refine ARun.ret ?_
  refine ⟨_, _, _, ResR.cellA rfl rfl rfl rfl rfl rfl .nil, .cons (.same _) .nil, rfl, ?_⟩
  have : sgnd false n.natAbs = n := by simp only [sgnd, cond_false]; omega
  rw [this]; rfl
structure Eu (a b r s : Nat) (x y u v : Int) : Prop where
  e1 : (r : Int) = x * a + y * b
  e2 : (s : Int) = u * a + v * b
  b1 : x.natAbs * s + u.natAbs * r = b
  b2 : y.natAbs * s + v.natAbs * r = a
  sg : (0 ≤ x ∧ y ≤ 0 ∧ u ≤ 0 ∧ 0 ≤ v) ∨ (x ≤ 0 ∧ 0 ≤ y ∧ 0 ≤ u ∧ v ≤ 0)
  gc : Nat.gcd r s = Nat.gcd a b
theorem Eu.init (a b : Nat) : Eu a b a b 1 0 0 1 := ⟨by simp, by simp, by simp, by simp, .inl (by omega), rfl⟩
theorem abs_sub {x u : Int} {n : Nat} (h : (0 ≤ x ∧ u ≤ 0) ∨ (x ≤ 0 ∧ 0 ≤ u)) : (x + -(n : Int) * u).natAbs = x.natAbs + n * u.natAbs ∧ ((0 ≤ x ∧ u ≤ 0) → 0 ≤ x + -(n : Int) * u) ∧ ((x ≤ 0 ∧ 0 ≤ u) → x + -(n : Int) * u ≤ 0) := by
  have hn : (0 : Int) ≤ n := Int.natCast_nonneg n
  rcases h with ⟨h1, h2⟩ | ⟨h1, h2⟩
  · obtain ⟨m, hm⟩ : ∃ m : Nat, u = -(m : Int) := ⟨u.natAbs, by omega⟩
    subst hm
    have e : -(n : Int) * -(m : Int) = ((n * m : Nat) : Int) := by rw [Int.neg_mul_neg]; simp
    rw [e, Int.natAbs_neg, Int.natAbs_natCast]
    refine ⟨by omega, fun _ => by omega, fun h => ?_⟩
    have hm0 : m = 0 := by omega
    subst hm0
    simp at *; omega
  obtain ⟨m, hm⟩ : ∃ m : Nat, u = (m : Int) := ⟨u.natAbs, by omega⟩
  subst hm
  have e : -(n : Int) * (m : Int) = -((n * m : Nat) : Int) := by rw [Int.neg_mul]; simp
  rw [e, Int.natAbs_natCast]
  refine ⟨by omega, fun h => ?_, fun _ => by omega⟩
  have hm0 : m = 0 := by omega
  subst hm0
  simp at *; omega
theorem Eu.step {a b r s : Nat} {x y u v : Int} (h : Eu a b r s x y u v) (hs : 0 < s) : Eu a b s (r % s) u v (x + -((r / s : Nat) : Int) * u) (y + -((r / s : Nat) : Int) * v) := by
  obtain ⟨e1, e2, b1, b2, sg, gc⟩ := h
  have hdm := Nat.div_add_mod r s
  have hr : ((r % s : Nat) : Int) = r - (r / s : Nat) * s := by
    have : (r : Int) = s * (r / s : Nat) + (r % s : Nat) := by rw [← Int.natCast_mul, ← Int.natCast_add, hdm]
    rw [this, Int.mul_comm (s : Int)]; omega
  have ax := abs_sub (x := x) (u := u) (n := r / s) (by rcases sg with ⟨q1, q2, q3, q4⟩ | ⟨q1, q2, q3, q4⟩; exact .inl ⟨q1, q3⟩; exact .inr ⟨q1, q3⟩)
  have ay := abs_sub (x := y) (u := v) (n := r / s) (by rcases sg with ⟨q1, q2, q3, q4⟩ | ⟨q1, q2, q3, q4⟩; exact .inr ⟨q2, q4⟩; exact .inl ⟨q2, q4⟩)
  have key : ∀ p q c : Nat, p * s + q * r = c → q * (r % s) + (p + r / s * q) * s = c := by
    intro p q c hc
    rw [← hc]
    have : q * r = q * (s * (r / s) + r % s) := by rw [hdm]
    rw [this, Nat.mul_add, Nat.add_mul]
    have e : r / s * q * s = q * (s * (r / s)) := by
      rw [Nat.mul_comm (r / s) q, Nat.mul_assoc, Nat.mul_comm (r / s) s]
    omega
  refine ⟨e2, ?_, ?_, ?_, ?_, ?_⟩
  · rw [hr, e1]
    generalize ((r / s : Nat) : Int) = n
    rw [e2]
    simp only [Int.add_mul, Int.mul_add, Int.neg_mul, Int.mul_assoc]
    omega
  · rw [ax.1]; exact key _ _ _ b1
  · rw [ay.1]; exact key _ _ _ b2
  · rcases sg with ⟨q1, q2, q3, q4⟩ | ⟨q1, q2, q3, q4⟩
    · exact .inr ⟨q3, q4, ax.2.1 ⟨q1, q3⟩, ay.2.2 ⟨q2, q4⟩⟩
    exact .inl ⟨q3, q4, ax.2.2 ⟨q1, q3⟩, ay.2.1 ⟨q2, q4⟩⟩
  rw [← gc, Nat.gcd_comm r s, Nat.gcd_rec s r, Nat.gcd_comm]
end Go.V
set_option synthInstance.maxSize 100000
set_option synthInstance.maxHeartbeats 2000000
namespace Go.V
open Go.RowKit Go.Proofs
def eu (r s : Nat) (x y u v : Int) : Nat × Int × Int × Int × Int :=
  if h : s = 0 then (r, x, y, u, v) else eu s (r % s) u v (x + -((r / s : Nat) : Int) * u) (y + -((r / s : Nat) : Int) * v)
termination_by s
decreasing_by exact Nat.mod_lt _ (Nat.pos_of_ne_zero h)
theorem eu_zero (r : Nat) (x y u v : Int) : eu r 0 x y u v = (r, x, y, u, v) := by rw [eu]; rfl
theorem eu_pos {r s : Nat} (h : 0 < s) (x y u v : Int) : eu r s x y u v = eu s (r % s) u v (x + -((r / s : Nat) : Int) * u) (y + -((r / s : Nat) : Int) * v) := by
  rw [eu, dif_neg (Nat.pos_iff_ne_zero.1 h)]
theorem Eu.fin {a b : Nat} : ∀ (s r : Nat) (x y u v : Int), Eu a b r s x y u v → Eu a b (eu r s x y u v).1 0 (eu r s x y u v).2.1 (eu r s x y u v).2.2.1 (eu r s x y u v).2.2.2.1 (eu r s x y u v).2.2.2.2 := by
  intro s
  induction s using Nat.strongRecOn with
  | _ s ih =>
    intro r x y u v h
    rcases Nat.eq_zero_or_pos s with h0 | h0
    · subst h0; rw [eu_zero]; exact h
    rw [eu_pos h0]; exact ih _ (Nat.mod_lt _ h0) _ _ _ _ _ (h.step h0)
structure EuI (a b M r s : Nat) (x y u v : Int) : Prop where
  h : Eu a b r s x y u v
  f : eu r s x y u v = eu a b 1 0 0 1
  hr : r ≤ M
  hs : s ≤ M
  hx : x.natAbs ≤ M
  hy : y.natAbs ≤ M
  hu : u.natAbs ≤ M
  hv : v.natAbs ≤ M
theorem EuI.step {a b M r s : Nat} {x y u v : Int} (h : EuI a b M r s x y u v) (hs : 0 < s) (ha : a ≤ M) (hb : b ≤ M) :
    EuI a b M s (r % s) u v (x + -((r / s : Nat) : Int) * u) (y + -((r / s : Nat) : Int) * v) ∧ (-((r / s : Nat) : Int) * u).natAbs ≤ M ∧ (-((r / s : Nat) : Int) * v).natAbs ≤ M := by
  have h2 := h.h.step hs
  have sg := h.h.sg
  have ax := abs_sub (x := x) (u := u) (n := r / s) (by rcases sg with ⟨q1, q2, q3, q4⟩ | ⟨q1, q2, q3, q4⟩; exact .inl ⟨q1, q3⟩; exact .inr ⟨q1, q3⟩)
  have ay := abs_sub (x := y) (u := v) (n := r / s) (by rcases sg with ⟨q1, q2, q3, q4⟩ | ⟨q1, q2, q3, q4⟩; exact .inr ⟨q2, q4⟩; exact .inl ⟨q2, q4⟩)
  have m1 : (x + -((r / s : Nat) : Int) * u).natAbs ≤ b := by
    have := h2.b1
    have := Nat.le_mul_of_pos_right (x + -((r / s : Nat) : Int) * u).natAbs hs
    omega
  have m2 : (y + -((r / s : Nat) : Int) * v).natAbs ≤ a := by
    have := h2.b2
    have := Nat.le_mul_of_pos_right (y + -((r / s : Nat) : Int) * v).natAbs hs
    omega
  have n1 : (-((r / s : Nat) : Int) * u).natAbs = r / s * u.natAbs := by rw [Int.natAbs_mul, Int.natAbs_neg, Int.natAbs_natCast]
  have n2 : (-((r / s : Nat) : Int) * v).natAbs = r / s * v.natAbs := by rw [Int.natAbs_mul, Int.natAbs_neg, Int.natAbs_natCast]
  have hmod := Nat.mod_lt r hs
  exact ⟨⟨h2, by rw [← h.f, eu_pos hs], h.hs, by have := h.hs; omega, h.hu, h.hv, by omega, by omega⟩, by rw [n1]; omega, by rw [n2]; omega⟩
theorem fit_of_le {z : Int} {M : Nat} (h : z.natAbs ≤ M) (hM : (lim M).length ≤ 1024) : fitZ z := Nat.le_trans (ln_mono h) hM
theorem ZlA (a b : Nat) (ha : (lim a).length ≤ 1024) (hb : (lim b).length ≤ 1024) (hb0 : 0 < b) : PC C ZhN [numD a, numD b] (fun o => o = .ret (.tup [numD (eu a b 1 0 0 1).1, intD (eu a b 1 0 0 1).2.1, intD (eu a b 1 0 0 1).2.2.1, numD (eu a b 1 0 0 1).2.2.2.2.natAbs, numD (eu a b 1 0 0 1).2.2.2.1.natAbs])) := by
  obtain ⟨M, hM⟩ : ∃ M, M = max a b := ⟨_, rfl⟩
  have hML : (lim M).length ≤ 1024 := by rw [hM]; rcases Nat.le_total a b with h | h; rw [Nat.max_eq_right h]; exact hb; rw [Nat.max_eq_left h]; exact ha
  have haM : a ≤ M := by omega
  have hbM : b ≤ M := by omega
  refine PC.rn Zdd ZgT ZgU (rs := [.tmp 4, .cell 5 25, .cell 6 25, .tmp 7, .tmp 8]) (by rw [ZgV]) ?_
  refine ARun.seq (ARun.region ?_); refine xa ?_
  refine y_new rfl (Zag rfl rfl rfl rfl) ?_
  refine y_new rfl (Zag rfl rfl rfl rfl) ?_
  refine xa ?_; refine xa ?_; refine AOps.nil (ARun.seq (ARun.region ?_)); refine xm ?_; refine xm ?_; refine xa ?_; refine xa ?_; refine AOps.nil (ARun.seq (ARun.region ?_))
  refine xc rfl rfl (Zap 1 (by decide) (by decide)) ?_
  refine xc rfl rfl (Zap 0 (by decide) (by decide)) ?_
  refine y_new rfl (Zaa rfl rfl rfl rfl rfl rfl rfl rfl (Nat.le_of_ble_eq_true rfl) rfl) ?_
  refine y_new rfl (Zaa rfl rfl rfl rfl rfl rfl rfl rfl (Nat.le_of_ble_eq_true rfl) rfl) ?_
  refine AOps.nil (ARun.seq (ARun.region ?_))
  refine xc rfl rfl (Zap 0 (by decide) (by decide)) ?_
  refine xc rfl rfl (Zap 1 (by decide) (by decide)) ?_
  refine y_new rfl (Zag rfl rfl rfl rfl) ?_
  refine y_new rfl (Zag rfl rfl rfl rfl) ?_
  refine y_new rfl (Zaa rfl rfl rfl rfl rfl rfl rfl rfl (Nat.le_of_ble_eq_true rfl) rfl) ?_
  refine y_new rfl (Zaa rfl rfl rfl rfl rfl rfl rfl rfl (Nat.le_of_ble_eq_true rfl) rfl) ?_
  refine AOps.nil (ARun.seq (ARun.block ?_))
  refine ARun.loopI (S := Nat × Nat × Int × Int × Int × Int) (fun σ : Nat × Nat × Int × Int × Int × Int => [(13, .any), (14, .any), (15, .any), (16, .any), (23, .any), (24, .any), (25, .any), (26, .any), (27, .any), (28, .any), (29, .any), (30, .any), (31, .any), (32, .any), (33, .any), (34, .any), (35, .any), (36, .any), (37, .any), (38, .any), (39, .any), (40, .any), (41, .any), (42, .any), (43, .any), (44, .any), (45, .any), (46, .any), (47, .any), (48, .any), (49, .any), (50, .any), (51, .any), (52, .any), (9, numD σ.1), (10, numD σ.2.1)]) (fun σ : Nat × Nat × Int × Int × Int × Int => [cellZ σ.2.2.1, cellZ σ.2.2.2.1, cellZ σ.2.2.2.2.1, cellZ σ.2.2.2.2.2]) (fun σ : Nat × Nat × Int × Int × Int × Int => EuI a b M σ.1 σ.2.1 σ.2.2.1 σ.2.2.2.1 σ.2.2.2.2.1 σ.2.2.2.2.2) (fun σ : Nat × Nat × Int × Int × Int × Int => σ.2.1) ((a, b, 1, 0, 0, 1)) ?_ ?_ ?_ ?_
  · exact ⟨Eu.init a b, rfl, haM, hbM, by show 1 ≤ M; omega, Nat.zero_le _, Nat.zero_le _, by show 1 ≤ M; omega⟩
  · (repeat' first | exact envLe_nil | apply envLe_any | apply envLe_same)
  · rfl
  rintro ⟨r, s, x, y, u, v⟩ hinv ih
  dsimp only at hinv ih ⊢
  refine ARun.seq (ARun.seq (ARun.region ?_)); refine xm ?_; refine xN ?_; refine xi ?_; refine AOps.nil ?_
  refine ARun.ite rfl (fun h => ?_) (fun h => ?_)
  · skip
    have hs0 : 0 < s := Nat.pos_of_ne_zero (ln_pos.1 (by omega))
    obtain ⟨hstep, hku, hkv⟩ := hinv.step hs0 haM hbM
    have hres : resD (lim r) (lim s) = (r / s, r % s, 0) := by
      unfold resD; rw [okB_lim (Nat.le_trans (ln_mono hinv.hr) hML), okB_lim (Nat.le_trans (ln_mono hinv.hs) hML), val_lim, val_lim]
      have : (lim s).length ≠ 0 := by have := ln_pos.2 (show s ≠ 0 by omega); omega
      simp only [Bool.and_self, cond_true, if_neg this]
    have hdiv : PC C Zeq [numD r, numD s] (fun o => o = .ret (.tup [numD (r / s), numD (r % s), .int .i64 0])) := (Ze8 (lim r) (lim s) (U32_lim _) (U32_lim _)).mono fun o ho => by rw [ho, hres]
    have hk := Zam true (r / s)
    rw [show sgnd true (r / s) = -((r / s : Nat) : Int) from rfl] at hk
    have fk : fitZ (-((r / s : Nat) : Int)) := by unfold fitZ; rw [Int.natAbs_neg, Int.natAbs_natCast]; exact Nat.le_trans (ln_mono (Nat.le_trans (Nat.div_le_self _ _) hinv.hr)) hML
    refine ARun.skip (ARun.block (ARun.seq (ARun.region ?_))); refine xm ?_; refine xm ?_
    refine xc rfl rfl (hdiv) ?_
    refine xm ?_; refine xe ?_; refine xe ?_; refine xe ?_; refine xa ?_; refine xa ?_; refine xa ?_; refine AOps.nil (ARun.seq (ARun.region ?_)); refine xm ?_; refine xi ?_; refine xm ?_
    refine y_gop rfl (g_call rfl rfl (PC.gp (Zbe _ 0))) (fun hg => ?_) (fun q hq => by obtain ⟨hq, rfl⟩ := hq; cases hq)
    refine AOps.nil (ARun.seq (ARun.region ?_)); refine xm ?_
    refine xc rfl rfl (hk) ?_
    refine ZbL rfl rfl rfl rfl rfl rfl rfl rfl rfl rfl rfl ?_
    refine AOps.nil (ARun.seq (ARun.region ?_)); refine xm ?_; refine xm ?_; refine xa ?_; refine xa ?_; refine AOps.nil (ARun.seq ?_)
    refine ARun.drawnG (n := 7) (fun S : Nat → Bool => [bif S 6 then cellZ u else cellZ x, cellZ y, cellZ u, cellZ v]) [] (fun _ => False) (sk := []) mixC rfl rfl (by kernel_rfl) rfl (by kernel_rfl) rfl (fun _ _ _ h => h.elim) ?_
    refine DChG.opC rfl (fun S hn hd hc => OpQ.pre (H1 := [bif false then cellZ u else cellZ x, cellZ y, cellZ u, cellZ v]) (by simp only [(clF hc hn (by kernel_rfl) : S 6 = false)]) (Zab rfl rfl rfl rfl rfl rfl)) (fun _ => rfl) rfl rfl ?_
    refine DChG.opC rfl (fun S hn hd hc => OpQ.pre (H1 := [bif false then cellZ u else cellZ x, cellZ y, cellZ u, cellZ v]) (by simp only [(clF hc hn (by kernel_rfl) : S 6 = false)]) (Zab rfl rfl rfl rfl rfl rfl)) (fun _ => rfl) rfl rfl ?_
    refine DChG.op rfl (fun _ => Zdn rfl rfl rfl rfl rfl) (fun _ => rfl) rfl rfl ?_
    refine DChG.op rfl (fun _ => Zab rfl rfl rfl rfl rfl rfl) (fun _ => rfl) rfl rfl ?_
    refine DChG.op rfl (fun _ => q_call rfl rfl ((Zfu (-((r / s : Nat) : Int)) u fk (fit_of_le hinv.hu hML)).mono (fun o ho => (ho.resolve_right (fun h => h.1 (fit_of_le hku hML))).2))) (fun _ => rfl) rfl rfl ?_
    refine DChG.op rfl (fun _ => q_call rfl rfl ((Zb4 x (-((r / s : Nat) : Int) * u) (fit_of_le hinv.hx hML) (fit_of_le hku hML)).mono (fun o ho => (ho.resolve_right (fun h => h.1 (fit_of_le hstep.hu hML))).2))) (fun _ => rfl) rfl rfl ?_
    refine DChG.stC rfl (fun S hn hd hc => OpN.both (H1 := [bif false then cellZ u else cellZ x, cellZ y, cellZ u, cellZ v]) (H3 := [bif true then cellZ u else cellZ x, cellZ y, cellZ u, cellZ v]) (by simp only [hn]) rfl (Zaa rfl rfl rfl rfl rfl rfl rfl rfl (Nat.le_of_ble_eq_true rfl) rfl)) rfl rfl ?_
    refine .nil (fun hG => AOps.fin (n := 4) (as' := []) (H' := [cellZ u, cellZ y, cellZ u, cellZ v]) rfl rfl rfl ?_)
    refine y_new rfl (Zaa rfl rfl rfl rfl rfl rfl rfl rfl (Nat.le_of_ble_eq_true rfl) rfl) ?_
    refine AOps.nil ?_
    refine ARun.drawnG (n := 7) (fun S : Nat → Bool => [cellZ u, bif S 6 then cellZ v else cellZ y, cellZ (x + -((r / s : Nat) : Int) * u), cellZ v]) [] (fun _ => False) (sk := []) mixC rfl rfl (by kernel_rfl) rfl (by kernel_rfl) rfl (fun _ _ _ h => h.elim) ?_
    refine DChG.opC rfl (fun S hn hd hc => OpQ.pre (H1 := [cellZ u, bif false then cellZ v else cellZ y, cellZ (x + -((r / s : Nat) : Int) * u), cellZ v]) (by simp only [(clF hc hn (by kernel_rfl) : S 6 = false)]) (Zab rfl rfl rfl rfl rfl rfl)) (fun _ => rfl) rfl rfl ?_
    refine DChG.opC rfl (fun S hn hd hc => OpQ.pre (H1 := [cellZ u, bif false then cellZ v else cellZ y, cellZ (x + -((r / s : Nat) : Int) * u), cellZ v]) (by simp only [(clF hc hn (by kernel_rfl) : S 6 = false)]) (Zab rfl rfl rfl rfl rfl rfl)) (fun _ => rfl) rfl rfl ?_
    refine DChG.op rfl (fun _ => Zdn rfl rfl rfl rfl rfl) (fun _ => rfl) rfl rfl ?_
    refine DChG.op rfl (fun _ => Zab rfl rfl rfl rfl rfl rfl) (fun _ => rfl) rfl rfl ?_
    refine DChG.op rfl (fun _ => q_call rfl rfl ((Zfu (-((r / s : Nat) : Int)) v fk (fit_of_le hinv.hv hML)).mono (fun o ho => (ho.resolve_right (fun h => h.1 (fit_of_le hkv hML))).2))) (fun _ => rfl) rfl rfl ?_
    refine DChG.op rfl (fun _ => q_call rfl rfl ((Zb4 y (-((r / s : Nat) : Int) * v) (fit_of_le hinv.hy hML) (fit_of_le hkv hML)).mono (fun o ho => (ho.resolve_right (fun h => h.1 (fit_of_le hstep.hv hML))).2))) (fun _ => rfl) rfl rfl ?_
    refine DChG.stC rfl (fun S hn hd hc => OpN.both (H1 := [cellZ u, bif false then cellZ v else cellZ y, cellZ (x + -((r / s : Nat) : Int) * u), cellZ v]) (H3 := [cellZ u, bif true then cellZ v else cellZ y, cellZ (x + -((r / s : Nat) : Int) * u), cellZ v]) (by simp only [hn]) rfl (Zaa rfl rfl rfl rfl rfl rfl rfl rfl (Nat.le_of_ble_eq_true rfl) rfl)) rfl rfl ?_
    refine .nil (fun hG => AOps.fin (n := 4) (as' := []) (H' := [cellZ u, cellZ v, cellZ (x + -((r / s : Nat) : Int) * u), cellZ v]) rfl rfl rfl ?_)
    refine y_new rfl (Zaa rfl rfl rfl rfl rfl rfl rfl rfl (Nat.le_of_ble_eq_true rfl) rfl) ?_
    refine AOps.nil (ARun.inBlock ?_)
    refine ARun.again (ih ((s, r % s, u, v, (x + -((r / s : Nat) : Int) * u), (y + -((r / s : Nat) : Int) * v))) ?_ ?_) ?_ ?_
    · exact hstep
    · exact Nat.mod_lt _ hs0
    · (repeat' first | exact envLe_nil | apply envLe_any | apply envLe_same)
    rfl
  have hs0 : s = 0 := by
    apply Classical.byContradiction
    intro hn
    have := ln_pos.2 hn
    omega
  subst hs0
  have hf := hinv.f
  rw [eu_zero] at hf
  refine ARun.exit rfl ?_
  refine ARun.seq ?_
  refine ARun.drawnG (n := 11) (fun S : Nat → Bool => [cellZ x, cellZ y, cellZ u, cellZ v]) [] (fun _ => False) (sk := []) mixC rfl rfl (by kernel_rfl) rfl (by kernel_rfl) rfl (fun _ _ _ h => h.elim) ?_
  refine DChG.op rfl (fun _ => q_move rfl) (fun _ => rfl) rfl rfl ?_
  refine DChG.op rfl (fun _ => Zab rfl rfl rfl rfl rfl rfl) (fun _ => rfl) rfl rfl ?_
  refine DChG.op rfl (fun _ => Zab rfl rfl rfl rfl rfl rfl) (fun _ => rfl) rfl rfl ?_
  refine DChG.op rfl (fun _ => q_fldP rfl rfl rfl (by decide)) (fun _ => rfl) rfl rfl ?_
  refine DChG.op rfl (fun _ => Zac rfl rfl rfl rfl rfl) (fun _ => rfl) rfl rfl ?_
  refine DChG.op rfl (fun _ => q_fldP rfl rfl rfl (by decide)) (fun _ => rfl) rfl rfl ?_
  refine DChG.op rfl (fun _ => Zac rfl rfl rfl rfl rfl) (fun _ => rfl) rfl rfl ?_
  refine DChG.op rfl (fun _ => Zjo rfl) (fun _ => rfl) rfl rfl ?_
  refine DChG.stC rfl (fun S hn hd hc => OpN.both (H1 := [cellZ x, cellZ y, cellZ u, cellZ v]) (H3 := [cellZ x, cellZ y, cellZ u, cellZ v]) rfl rfl (Zaa rfl rfl rfl rfl rfl rfl rfl rfl (Nat.le_of_ble_eq_true rfl) rfl)) rfl rfl ?_
  refine DChG.stC rfl (fun S hn hd hc => OpN.both (H1 := [cellZ x, cellZ y, cellZ u, cellZ v]) (H3 := [cellZ x, cellZ y, cellZ u, cellZ v]) rfl rfl (Zaa rfl rfl rfl rfl rfl rfl rfl rfl (Nat.le_of_ble_eq_true rfl) rfl)) rfl rfl ?_
  refine DChG.op rfl (fun _ => Zjo rfl) (fun _ => rfl) rfl rfl ?_
  refine .nil (fun hG => AOps.fin (n := 4) (as' := []) (H' := [cellZ x, cellZ y, cellZ u, cellZ v]) rfl rfl rfl ?_)
  refine xa ?_; refine AOps.nil ?_
  refine ARun.ret ?_
  refine ⟨_, _, _, .tmp rfl (ResR.cellA rfl rfl rfl rfl rfl rfl (ResR.cellA rfl rfl rfl rfl rfl rfl (.tmp rfl (.tmp rfl .nil)))), .cons (.same _) (.cons (.same _) (.cons (.same _) (.cons (.same _) (.cons (.same _) .nil)))), rfl, ?_⟩
  rw [← hf]; rfl
end Go.V
set_option synthInstance.maxSize 100000
set_option synthInstance.maxHeartbeats 2000000
namespace Go.V
open Go.RowKit Go.Proofs
theorem eu_abs : ∀ (s r : Nat) (x y u v : Int), (x.natAbs ≤ u.natAbs ∧ s < r) ∨ (x.natAbs = 1 ∧ u = 0 ∧ 0 < s) → (eu r s x y u v).2.1.natAbs ≤ (eu r s x y u v).2.2.2.1.natAbs ∨ ¬ ((0 ≤ x ∧ u ≤ 0) ∨ (x ≤ 0 ∧ 0 ≤ u)) := by
  intro s
  induction s using Nat.strongRecOn with
  | _ s ih =>
    intro r x y u v h
    by_cases sg : (0 ≤ x ∧ u ≤ 0) ∨ (x ≤ 0 ∧ 0 ≤ u)
    · left
      rcases Nat.eq_zero_or_pos s with h0 | h0
      · subst h0
        rw [eu_zero]
        rcases h with h | h
        · exact h.1
        omega
      rw [eu_pos h0]
      have hm := Nat.mod_lt r h0
      obtain ⟨a1, a2, a3⟩ := abs_sub (n := r / s) sg
      have hsg' : (0 ≤ u ∧ x + -((r / s : Nat) : Int) * u ≤ 0) ∨ (u ≤ 0 ∧ 0 ≤ x + -((r / s : Nat) : Int) * u) := by
        rcases sg with q | q
        · exact .inr ⟨q.2, a2 q⟩
        exact .inl ⟨q.2, a3 q⟩
      refine (ih _ hm s u v _ _ (.inl ⟨?_, hm⟩)).resolve_right (fun h => h hsg')
      rw [a1]
      rcases h with ⟨h1, h2⟩ | ⟨h1, h2, h3⟩
      · have : 1 ≤ r / s := (Nat.one_le_div_iff h0).2 (Nat.le_of_lt h2)
        have := Nat.le_mul_of_pos_left u.natAbs this
        omega
      subst h2; simp
    exact .inr sg
structure EuE (a b : Nat) (F : Nat × Int × Int × Int × Int) : Prop where
  g : F.1 = Nat.gcd a b
  e : (F.1 : Int) = F.2.1 * a + F.2.2.1 * b
  q : F.2.2.2.1.natAbs * F.1 = b
  p : F.2.2.2.2.natAbs * F.1 = a
  x : F.2.1.natAbs ≤ F.2.2.2.1.natAbs
theorem eu_end {a b : Nat} (hb : 0 < b) : EuE a b (eu a b 1 0 0 1) := by
  have h := Eu.fin b a 1 0 0 1 (Eu.init a b)
  refine ⟨?_, h.e1, ?_, ?_, ?_⟩
  · have := h.gc; rw [Nat.gcd_zero_right] at this; exact this
  · have := h.b1; rw [Nat.mul_zero, Nat.zero_add] at this; exact this
  · have := h.b2; rw [Nat.mul_zero, Nat.zero_add] at this; exact this
  exact (eu_abs b a 1 0 0 1 (.inr ⟨rfl, rfl, hb⟩)).resolve_right (fun h => h (.inl ⟨by decide, by decide⟩))
def gX (a b : Int) : Int := sgnd (decide (a < 0)) 1 * (eu a.natAbs b.natAbs 1 0 0 1).2.1
def gY (a b : Int) : Int := sgnd (decide (b < 0)) 1 * (eu a.natAbs b.natAbs 1 0 0 1).2.2.1
def gQ (a b : Int) : Nat := (eu a.natAbs b.natAbs 1 0 0 1).2.2.2.1.natAbs
def gP (a b : Int) : Nat := (eu a.natAbs b.natAbs 1 0 0 1).2.2.2.2.natAbs
theorem sgn_abs (a : Int) : sgnd (decide (a < 0)) 1 * (a.natAbs : Int) = a ∧ sgnd (decide (a < 0)) 1 * a = a.natAbs := by
  by_cases h : a < 0
  · rw [decide_eq_true h]; simp only [sgnd, cond_true]; omega
  rw [decide_eq_false h]; simp only [sgnd, cond_false]; omega
theorem gXY {a b : Int} (hb : b ≠ 0) : a * gX a b + b * gY a b = (Nat.gcd a.natAbs b.natAbs : Int) := by
  obtain ⟨g, e, _, _, _⟩ := eu_end (a := a.natAbs) (b := b.natAbs) (by omega)
  unfold gX gY
  rw [← g, e, ← Int.mul_assoc, ← Int.mul_assoc, Int.mul_comm a, Int.mul_comm b, (sgn_abs a).2, (sgn_abs b).2, Int.mul_comm (a.natAbs : Int), Int.mul_comm (b.natAbs : Int)]
end Go.V
set_option synthInstance.maxSize 100000
set_option synthInstance.maxHeartbeats 2000000
namespace Go.V
open Go.RowKit Go.Proofs
abbrev gG (a b : Int) : Nat := Nat.gcd a.natAbs b.natAbs
def gBk (a b : Int) : Int := sgnd (!(decide (a < 0) == decide (b < 0))) (gP a b)
def gcdX (a b : Int) : Int := if b = 0 then a.sign else gX a b % (gQ a b : Int)
def gcdY (a b : Int) : Int := if b = 0 then 0 else ((gG a b : Int) - a * gcdX a b) / b
section
variable {a b : Int} (hb : b ≠ 0)
include hb
theorem gQ_mul : gQ a b * gG a b = b.natAbs := by
  have h := eu_end (a := a.natAbs) (b := b.natAbs) (by omega)
  have := h.q
  rw [h.g] at this; exact this
theorem gP_mul : gP a b * gG a b = a.natAbs := by
  have h := eu_end (a := a.natAbs) (b := b.natAbs) (by omega)
  have := h.p
  rw [h.g] at this; exact this
theorem gG_pos : 0 < gG a b := Nat.gcd_pos_of_pos_right _ (by omega)
theorem gQ_pos : 0 < gQ a b := by
  apply Nat.pos_of_ne_zero
  intro h
  have := gQ_mul (a := a) hb
  rw [h, Nat.zero_mul] at this
  omega
theorem gQ_le : gQ a b ≤ b.natAbs := by
  have := gQ_mul (a := a) hb
  have := Nat.le_mul_of_pos_right (gQ a b) (gG_pos (a := a) hb)
  omega
theorem gP_le : gP a b ≤ a.natAbs := by
  have := gP_mul (a := a) hb
  have := Nat.le_mul_of_pos_right (gP a b) (gG_pos (a := a) hb)
  omega
theorem gBk_eq : a * (gQ a b : Int) = b * gBk a b := by
  have h1 := gQ_mul (a := a) hb
  have h2 := gP_mul (a := a) hb
  have h3 : a.natAbs * gQ a b = b.natAbs * gP a b := by
    rw [← h1, ← h2, Nat.mul_right_comm, Nat.mul_comm (gP a b) (gQ a b)]
    rw [Nat.mul_right_comm (gQ a b)]
  have h4 : (a.natAbs : Int) * (gQ a b : Int) = (b.natAbs : Int) * (gP a b : Int) := by rw [← Int.natCast_mul, ← Int.natCast_mul, h3]
  unfold gBk
  by_cases ha : a < 0 <;> by_cases hb' : b < 0
  · rw [decide_eq_true ha, decide_eq_true hb']
    simp only [beq_self_eq_true, Bool.not_true, sgnd, cond_false]
    have e1 : a * (gQ a b : Int) = -((a.natAbs : Int) * (gQ a b : Int)) := by rw [← Int.neg_mul]; congr 1; omega
    have e2 : b * (gP a b : Int) = -((b.natAbs : Int) * (gP a b : Int)) := by rw [← Int.neg_mul]; congr 1; omega
    rw [e1, e2, h4]
  · rw [decide_eq_true ha, decide_eq_false hb']
    simp only [show (!(true == false)) = true from rfl, sgnd, cond_true]
    rw [Int.mul_neg]
    have e1 : a * (gQ a b : Int) = -((a.natAbs : Int) * (gQ a b : Int)) := by rw [← Int.neg_mul]; congr 1; omega
    have e2 : b * (gP a b : Int) = (b.natAbs : Int) * (gP a b : Int) := by congr 1; omega
    rw [e1, e2, h4]
  · rw [decide_eq_false ha, decide_eq_true hb']
    simp only [show (!(false == true)) = true from rfl, sgnd, cond_true]
    rw [Int.mul_neg]
    have e1 : a * (gQ a b : Int) = (a.natAbs : Int) * (gQ a b : Int) := by congr 1; omega
    have e2 : b * (gP a b : Int) = -((b.natAbs : Int) * (gP a b : Int)) := by rw [← Int.neg_mul]; congr 1; omega
    rw [e1, e2, h4]; omega
  rw [decide_eq_false ha, decide_eq_false hb']
  simp only [beq_self_eq_true, Bool.not_true, sgnd, cond_false]
  have e1 : a * (gQ a b : Int) = (a.natAbs : Int) * (gQ a b : Int) := by congr 1; omega
  have e2 : b * (gP a b : Int) = (b.natAbs : Int) * (gP a b : Int) := by congr 1; omega
  rw [e1, e2, h4]
theorem gX_abs : (gX a b).natAbs ≤ gQ a b := by
  have h := eu_end (a := a.natAbs) (b := b.natAbs) (by omega)
  unfold gX gQ
  rw [Int.natAbs_mul, sgnd_abs, Nat.one_mul]; exact h.x
theorem ZlB {x y : Int} (h : a * x + b * y = (gG a b : Int)) (h0 : 0 ≤ x) (h1 : x < gQ a b) : y.natAbs ≤ max a.natAbs 1 := by
  have hg := gG_pos (a := a) hb
  have hq := gQ_le (a := a) hb
  have e : (b * y).natAbs = b.natAbs * y.natAbs := Int.natAbs_mul _ _
  have hby : b * y = (gG a b : Int) - a * x := by omega
  obtain ⟨X, rfl⟩ : ∃ X : Nat, x = X := ⟨x.toNat, by omega⟩
  have hX : X + 1 ≤ gQ a b := by omega
  have hax : (a * (X : Int)).natAbs = a.natAbs * X := by rw [Int.natAbs_mul, Int.natAbs_natCast]
  have m1 : a.natAbs * (X + 1) ≤ a.natAbs * b.natAbs := Nat.mul_le_mul_left _ (by omega)
  rw [Nat.mul_add, Nat.mul_one] at m1
  rcases Nat.eq_zero_or_pos a.natAbs with ha | ha
  · have hgb : gG a b = b.natAbs := by show Nat.gcd a.natAbs b.natAbs = _; rw [ha, Nat.gcd_zero_left]
    have ha0 : a * (X : Int) = 0 := by rw [show a = 0 by omega, Int.zero_mul]
    rw [ha0] at hby
    rw [hby] at e
    have : b.natAbs * y.natAbs = b.natAbs := by rw [← e]; omega
    have hy1 : y.natAbs = 1 := Nat.eq_of_mul_eq_mul_left (show 0 < b.natAbs by omega) (by rw [this, Nat.mul_one])
    omega
  have hga : gG a b ≤ a.natAbs := Nat.gcd_le_left _ ha
  have : b.natAbs * y.natAbs ≤ b.natAbs * a.natAbs := by
    rw [← e, hby, Nat.mul_comm b.natAbs]
    generalize a * (X : Int) = z at *
    omega
  have := Nat.le_of_mul_le_mul_left this (show 0 < b.natAbs by omega)
  omega
theorem gcdXY {x y : Int} (h : a * x + b * y = (gG a b : Int)) (h0 : 0 ≤ x) (h1 : x < gQ a b) (hm : x % (gQ a b : Int) = gX a b % (gQ a b : Int)) : x = gcdX a b ∧ y = gcdY a b := by
  have hx : x = gcdX a b := by unfold gcdX; rw [if_neg hb, ← hm, Int.emod_eq_of_lt h0 h1]
  refine ⟨hx, ?_⟩
  unfold gcdY
  rw [if_neg hb, ← hx, ← h, show a * x + b * y - a * x = b * y by omega, Int.mul_ediv_cancel_left _ hb]
omit hb in
theorem fit_max {y : Int} (ha : fitZ a) (h : y.natAbs ≤ max a.natAbs 1) : fitZ y := by
  refine Nat.le_trans (ln_mono h) ?_
  rcases Nat.le_total a.natAbs 1 with h | h
  · rw [Nat.max_eq_right h, lim_one]; decide
  rw [Nat.max_eq_left h]; exact ha
end
end Go.V
