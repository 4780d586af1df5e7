/- Rules for steps and contracts of functions, each proved; no condition. -/
import Derived.Test.YtaglofmanchabaaGreatDoorA09
import Derived.Below
import Derived.Test.YtaglofmanchabaaGreatDoorProg
set_option linter.unusedVariables false
set_option linter.unusedSimpArgs false
set_option linter.unnecessarySimpa false
set_option maxHeartbeats 4000000
set_option synthInstance.maxHeartbeats 2000000
set_option synthInstance.maxSize 100000
namespace Go.V
open Go.RowKit
section
variable {C : Ctx} {Q : Post} {ops : Array Oper} {rest : List Oper} {k : List Item} {env env' : List D} {H : Heap} {df : List ADef} {t : Tmp} {T : TypeId} {te : TE} {d : D} {ds : List D} {y : Operand} {ty1 ty2 : TypeId} {p1 p2 : String} {a1 a2 : Array Edge}
theorem ZI {dz : D} {zs : List D} (ht : C.ty T = some te) (hz : Zas te.zero = some dz) (hzs : Z7 dz = some zs) (hzk : zs.all (Zai []) = true) (hzl : zs.length = te.size) (hy : evO C (env.set t .any) y = some d) (htl : Nat.blt t env.length = true) (hc : Z7 d = some ds) (hn : ds.length = te.size) (hok : ds.all (Zai H) = true) (hpu : D.pure.pures ds = true) [hp : Put env (some t) (.sptr ds) env'] (hk : AOps C Q ops rest k env' H df) :
    AOps C Q ops (⟨some t, .alloc T, ty1, p1, a1, none⟩ :: ⟨none, .store T (.tmp t) y, ty2, p2, a2, none⟩ :: rest) k env H df := by
  refine ⟨fun i hi => ⟨fun L0 w0 μ0 H0 w μ a hs hv hd he b cs hrd => ?_⟩⟩;have ti := (ZU ht).1;have htl' : t < env.length := Nat.le_of_ble_eq_true htl
  have hta : t < a.tmps.size := by have := ZJ hv; rw [Array.length_toList] at this; rw [this]; exact htl'
  have ho1 : ops[i]? = some ⟨some t, .alloc T, ty1, p1, a1, none⟩ := by have := Zd6 hi; simpa using this
  have hi2 := Zda hi
  have ho2 : ops[i + 1]? = some ⟨none, .store T (.tmp t) y, ty2, p2, a2, none⟩ := by have := Zd6 hi2; simpa using this
  let w1 := w.alloc (.cells te.zero.cells T)
  let ptr : Value := .pointer (some ⟨w.heap.size, 0, none⟩)
  let b1 := a.put (some t) ptr
  have hrun1 : (execOp a.eval ⟨some t, .alloc T, ty1, p1, a1, none⟩).run C.P w = .ok (.value ptr) w1 := by
    simp [execOp, Instr.alloc, ti.run_zero, newVar, newRow, ptr, w1]
  have hnew : w1.heap[w.heap.size]? = some (.cells te.zero.cells T (0, 0)) := heap_alloc_new w _;obtain ⟨sK, eK⟩ := hs.allocK (.cells te.zero.cells T);have st1 := eK.step L0
  have hy0 : evO C env y = some d ∧ b1.eval y = a.eval y := by
    cases y with
    | tmp t' =>
      simp only [evO] at hy ⊢;rw [List.getElem?_set] at hy
      by_cases e : t = t'
      · subst e
        simp only [if_true, htl'] at hy
        injection hy with hy
        subst hy;simp [Z7] at hc
      simp only [e, if_false] at hy;refine ⟨hy, ?_⟩;simp only [Act.eval, b1, Act.put];rw [Array.getD_eq_getD_getElem?, Array.getD_eq_getD_getElem?, Array.getElem?_setIfInBounds_ne e]
    | const v => exact ⟨hy, rfl⟩
    | global g => exact ⟨hy, rfl⟩
    | func f => exact ⟨hy, rfl⟩
  have ey := Zap hs hv hy0.1;rw [← hy0.2] at ey;obtain ⟨v1, v2⟩ := Zbb hc hok ey;have vl := ZJ v1;obtain ⟨z1, _⟩ := Zbb (w := w) (L := fun _ => True) (μ := []) (H := []) hzs hzk (ZaZ hz);have zl := ZJ z1;rw [Array.length_toList] at zl;have hst := run_storeCells_at C.P w.heap.size 0 T (b1.eval y).cells.toList 0 te.zero.cells w1 hnew (by rw [vl]; omega) v2
  let cur' : Array Value := (te.zero.cells.toList.take 0 ++ (b1.eval y).cells.toList ++ te.zero.cells.toList.drop (0 + (b1.eval y).cells.toList.length)).toArray
  let w2 := w1.setRow w.heap.size cur'
  have hpt : b1.eval (.tmp t) = ptr := by
    simp only [Act.eval, b1, Act.put];rw [Array.getD_eq_getD_getElem?, Array.getElem?_setIfInBounds];simp [hta]
  have hrun2 : (execOp b1.eval ⟨none, .store T (.tmp t) y, ty2, p2, a2, none⟩).run C.P w1 = .ok .skip w2 := by
    simp only [execOp, hpt, ptr, Sem.run_bind, Instr.storeAt, storeVar, Instr.sureAddr, Sem.run_pure, Result.andThen_ok, ti.run_size]
    have : ¬ (b1.eval y).cells.size ≠ te.size := by
      rw [Array.length_toList] at vl;omega
    simp only [this, if_false, Sem.run_bind, Sem.run_pure, Result.andThen_ok];simp only [Nat.add_zero] at hst;rw [hst];simp [w2, cur']
  rw [List.length_cons, List.length_cons, List.range'_succ, List.range'_succ]
  have hwp1 : Oper.wp C.P ⟨some t, .alloc T, ty1, p1, a1, none⟩ a w (fun a' w' => a' = b1 ∧ w' = w1) (fun _ _ _ => False) := by
    unfold Oper.wp; rw [hrun1]; exact ⟨rfl, rfl⟩
  have hwp2 : Oper.wp C.P ⟨none, .store T (.tmp t) y, ty2, p2, a2, none⟩ b1 w1 (fun a' w' => a' = b1 ∧ w' = w2) (fun _ _ _ => False) := by
    unfold Oper.wp; rw [hrun2]; exact ⟨rfl, rfl⟩
  have nd1 : ∀ (d' : Deferred) (w' : World), ¬ ((({ a with defers := d' :: a.defers } : Act).put (some t) undef) = b1 ∧ w' = w1) := fun d' w' ⟨h, _⟩ => Zdq h
  have nd2 : ∀ (d' : Deferred) (w' : World), ¬ ((({ b1 with defers := d' :: b1.defers } : Act).put none undef) = b1 ∧ w' = w2) := fun d' w' ⟨h, _⟩ => Zdq (dst := none) (v := undef) h
  rcases Zdj (rest := (i + 1) :: List.range' (i + 1 + 1) rest.length) ho1 (by simp [Region.wanted]) hwp1 (by rintro ⟨_, _, h⟩; exact h) b (.inr nd1) k cs with ⟨a', w', ⟨e1, e2⟩, hst1⟩ | ⟨_, _, _, h, _⟩
  · subst e1; subst e2
    rcases Zdj (rest := List.range' (i + 1 + 1) rest.length) ho2 (by simp [Region.wanted]) hwp2 (by rintro ⟨_, _, h⟩; exact h) b (.inr nd2) k cs with ⟨a', w', ⟨e1, e2⟩, hst2⟩ | ⟨_, _, _, h, _⟩
    · subst e1; subst e2
      have hoth : ∀ b', b' < w.heap.size → w2.heap[b']? = w.heap[b']? := fun b' hb' => by
        have h1 : w2.heap[b']? = w1.heap[b']? := setRow_other w1 w.heap.size b' cur' (by omega);rw [h1]; exact Below.heap_alloc w _ b' hb'
      have hsz : w2.heap.size = w.heap.size + 1 := by simp [w2, w1]
      have he2 : Evo w w2 μ μ H H := ⟨rfl, rfl, rfl, by omega, fun b' hb' _ => hoth b' hb', fun _ _ h => h, fun _ _ h => h, fun i x hx => ⟨x, hx, fun o' e => ⟨o', e, rfl, rfl, rfl, fun b' cur _ hw => ⟨cur, by rw [hoth b' (Array.getElem?_eq_some_iff.1 hw).1]; exact hw, rfl⟩⟩⟩⟩;have hs2 : SR C L0 w2 μ H := hs.next he2 hs.len (fun i o b' h1 h2 => (hs.obj i o b' h1 h2).same (hoth b' (hs.block_lt h1 h2))) hs.inj hs.own;have st2 := he2.step L0;have hrow : w2.heap[w.heap.size]? = some (.cells cur' T (0, 0)) := setRow_heap w1 w.heap.size te.zero.cells cur' T (0, 0) hnew
      have hvp : VR w2 (forb L0 μ H) μ H (.sptr ds) ptr := by
        simp only [VR];refine ⟨⟨w.heap.size, 0, none⟩, rfl, by simp [hsz], fun hfb => Nat.lt_irrefl _ (hs.forb_lt hfb), Zfa fun j d' hd' => ?_⟩;obtain ⟨v, k1, k2⟩ := Z2 v1 hd';refine ⟨v, ?_, v2 v (List.mem_of_getElem? k1), ?_⟩
        · rw [Nat.zero_add, Zek, ZfI hrow]
          simp only [cur', List.take_zero, List.nil_append, List.getElem?_toArray];rw [List.getElem?_append_left (List.getElem?_eq_some_iff.1 k1).1]; exact k1
        exact VR.step st2.pure (VR.drop (Zjs hpu hd') k2)
      have hv2 : VRs w2 (forb L0 μ H) μ H env' b1.tmps.toList := by
        rw [← hp.eq];exact ZbL (dst := some t) (VRs.step st2 hv) hvp
      obtain ⟨e, a', w', h3, h4⟩ := (hk.out (i + 1 + 1) (Zda hi2)).out L0 w0 μ0 H0 w2 μ b1 hs2 hv2 (by rw [show b1.defers = a.defers from ZaB a _ _]; exact DfR.step st2 hd) (he.trans he2) b cs (hrd.step he2.map);exact ⟨e, a', w', h3, .of_steps (Steps.trans hst1 hst2) h4⟩
    exact h.elim
  exact h.elim
end
open Go.RowKit Go.Proofs
theorem ZgS (n : Int) (h1 : -9223372036854775808 ≤ n) (h2 : n ≤ 9223372036854775807) : PC C 106 [.int .i64 n] (fun o => o = .ret (intD n)) := by
  refine Znr Tryz.func106 Tryz.ntmps106 Tryz.results106 ?_;refine go ?_;refine Znp rfl (fun h => ?_) (fun h => ?_)
  · skip
    have e1 : IntKind.u64.wrap n = n + 18446744073709551616 := by unfold IntKind.wrap; simp [IntKind.signed, IntKind.bits]; omega
    have e2 : IntKind.u64.wrap (0 - (n + 18446744073709551616)) = (n.natAbs : Int) := by unfold IntKind.wrap; simp [IntKind.signed, IntKind.bits]; omega
    refine go ?_;refine Za rfl (Zo rfl rfl rfl e1) ?_;refine Za rfl (Zg4 rfl e2) ?_;refine Zc rfl rfl (Zfu n.natAbs (by omega)) ?_;refine Zc rfl rfl (ZaM true n.natAbs) ?_;refine go ?_;refine Zns ?_
    have : sgnd true n.natAbs = n := by simp only [sgnd, cond_true]; omega
    rw [this]; try rfl
  have e1 : IntKind.u64.wrap n = (n.natAbs : Int) := by unfold IntKind.wrap; simp [IntKind.signed, IntKind.bits]; omega
  refine go ?_;refine Za rfl (Zo rfl rfl rfl e1) ?_;refine Zc rfl rfl (Zfu n.natAbs (by omega)) ?_;refine Zc rfl rfl (ZaM false n.natAbs) ?_;refine go ?_;refine Zns ?_
  have : sgnd false n.natAbs = n := by simp only [sgnd, cond_false]; omega
  rw [this]; try rfl
section
variable {a b : Int} (hb : b ≠ 0)
include hb
end
def ZgN (l : List Oper) (m : Nat) : Nat → List Nat → List (List Nat)
  | 0, _ => [List.range' m (l.length - m)]
  | f + 1, und => (und.filter fun i => und.all fun j => !hasE l i j).flatMap fun i => (ZgN l m f (und.erase i)).map (i :: ·)
theorem orders_all {l : List Oper} {m : Nat} (ok : OkD l m) (hm : m ≤ l.length) (fuel t : Nat) (hf : l.length = fuel) :
    Region.linearise.go .any l.toArray fuel t (Array.replicate l.length false) [] ∈ ZgN l m m (List.range m) := by
  have hlst : lst (Array.replicate l.length false) = fun _ => false := by
    funext j
    unfold lst;rw [Array.getD_eq_getD_getElem?, Array.getElem?_replicate]
    split <;> rfl
  have main := draw_all ok hm (fun S rest => ∀ und : List Nat, und.Nodup → (∀ j, j ∈ und ↔ j < m ∧ S j = false) → rest ∈ ZgN l m und.length und)
    (by
      intro und _ h
      have : und = [] := by
        rcases und with _ | ⟨a, r⟩
        · rfl
        have := (h a).1 (List.mem_cons_self ..);simp at this;omega
      subst this
      simp [ZgN])
    (by
      intro S i rest him hS hlt hedge _ hP und hnd h;have hi : i ∈ und := (h i).2 ⟨him, hS⟩
      have hlen : und.length = (und.erase i).length + 1 := by
        rw [List.length_erase_of_mem hi];have := List.length_pos_of_mem hi;omega
      rw [hlen];refine List.mem_flatMap.2 ⟨i, List.mem_filter.2 ⟨hi, List.all_eq_true.2 fun j hj => ?_⟩, List.mem_map.2 ⟨rest, ?_, rfl⟩⟩
      · cases hE : hasE l i j with
        | false => rfl
        | true =>
          have h1 := hedge j hE;have h2 := ((h j).1 hj).2;rw [h1] at h2; cases h2
      refine hP _ (hnd.erase i) fun j => ?_
      rw [hnd.mem_erase_iff, h j]
      constructor
      · rintro ⟨h1, h2, h3⟩; exact ⟨h2, by rw [Zde S h1]; exact h3⟩
      rintro ⟨h1, h2⟩
      have hne : j ≠ i := by rintro rfl; rw [Zdx] at h2; cases h2
      exact ⟨hne, h1, by rw [Zde S hne] at h2; exact h2⟩)
    fuel t (Array.replicate l.length false) (by simp) (by simp [hf]) (by
      intro j hj;rw [hlst] at hj
      cases hj)
  rw [hlst] at main;have := main (List.range m) List.nodup_range (fun j => by simp)
  simpa using this
theorem allOf {α : Type} {P : α → Prop} {l l' : List α} (h : l = l') (h2 : ∀ x ∈ l', P x) : ∀ x ∈ l, P x := h ▸ h2
theorem Zac {α : Type} {P : α → Prop} {a : α} {l : List α} (h : P a) (h2 : ∀ x ∈ l, P x) : ∀ x ∈ a :: l, P x := fun x hx => by
  rcases List.mem_cons.1 hx with rfl | hx
  · exact h
  exact h2 x hx
theorem nilAll {α : Type} {P : α → Prop} : ∀ x ∈ ([] : List α), P x := fun _ h => by cases h
section
variable {C : Ctx} {Q : Post} {k : List Item} {env env' : List D} {H H' : Heap} {df : List ADef} {l : List Oper} {ops : Array Oper} {o : Oper} {i : Nat} {is : List Nat} {d : D}
theorem ZnS {id : Nat} (m : Nat) (hmix : C.P.follows .mixedOrders = true) (hm : Nat.ble m l.length = true) (hB : Zea l m = true)
    (hk : ∀ ord ∈ ZgN l m m (List.range m), ARun C Q (.inRegion l.toArray ord :: k) env H df) : ARun C Q (.code (.region id l.toArray true) :: k) env H df := by
  refine ⟨fun L0 w0 μ0 H0 w μ a hs hv hd he b cs hrd => ?_⟩;have hst := stepR_region_draw (P := C.P) (b := b) (a := a) (k := k) (cs := cs) (w := w) (ops := l.toArray) (id := id);simp only [Region.schedule, hmix, Bool.true_or, if_true] at hst;have hrun := hk _ (orders_all (OkD.of hB) (Nat.le_of_ble_eq_true hm) l.length (w.tape w.drawn (.order b.fn id)) rfl)
  have hstep : Step w { w with drawn := w.drawn + 1 } (forb L0 μ H) (forb L0 μ H) μ μ H H :=
    ⟨Nat.le_refl _, fun _ _ _ => rfl, fun _ _ h => h, fun _ _ h => h, fun i x hx => ⟨x, hx, fun o e => ⟨o, e, rfl, rfl, rfl, fun b cur _ h => ⟨cur, h, rfl⟩⟩⟩⟩
  have hevo : Evo w { w with drawn := w.drawn + 1 } μ μ H H :=
    ⟨rfl, rfl, rfl, Nat.le_refl _, fun _ _ _ => rfl, fun _ _ h => h, fun _ _ h => h, fun i x hx => ⟨x, hx, fun o e => ⟨o, e, rfl, rfl, rfl, fun b cur _ h => ⟨cur, h, rfl⟩⟩⟩⟩
  have hs' : SR C L0 { w with drawn := w.drawn + 1 } μ H := hs.next hevo hs.len (fun i o b h1 h2 => (hs.obj i o b h1 h2).same rfl) hs.inj hs.own;obtain ⟨e', a', w', h5, h6⟩ := hrun.out L0 w0 μ0 H0 _ μ a hs' (VRs.step hstep hv) (DfR.step hstep hd) (he.trans hevo) b cs (hrd.step hevo.map);exact ⟨e', a', w', h5, .of_steps (.one hst) h6⟩
structure AOne (C : Ctx) (Q : Post) (ops : Array Oper) (o : Oper) (is : List Nat) (k : List Item) (env : List D) (H : Heap) (df : List ADef) : Prop where
  mk :: (out : ∀ i : Nat, ops[i]? = some o → ARun C Q (.inRegion ops (i :: is) :: k) env H df)
theorem yo_opH {K KP : D → Heap → Prop} (hg : gOk ops.toList env o.guard = some true) (h : OpH C o env H K KP) (hk : ∀ d H', K d H' → ARun C Q (.inRegion ops is :: k) (Zu env o.dst d) H' df) (hp : ∀ d H', KP d H' → Q (.pan d) env H' df) :
    AOne C Q ops o is k env H df := by
  refine ⟨fun i ho => ⟨fun L0 w0 μ0 H0 w μ a hs hv hd he b cs hrd => ?_⟩⟩;have hw := Zet (C := C) hv hg;have h1 := h.out L0 w μ a hs hv
  rcases Zdj (rest := is) ho hw h1 (by rintro ⟨a0, w1, v, d, H', μ', h2, _⟩; cases h2) b (.inr fun dd w' ⟨v, d, H', μ', _, h2, _⟩ => Zdq h2) k cs with
    ⟨a', w', ⟨v, d, H', μ', hK, rfl, hs', hd', he'⟩, hst⟩ | ⟨chain, w', todo, ⟨v, d, H', μ', hch, _, hK, hs', hd', he'⟩, hst⟩
  · have hst' := he'.step L0
    have h2 := (hk d H' hK).out L0 w0 μ0 H0 w' μ' (a.put o.dst v) hs' (ZbL (VRs.step hst' hv) hd') (by rw [ZaB]; exact DfR.step hst' hd) (he.trans he') b cs (hrd.step he'.map);obtain ⟨e, a', w'', h3, h4⟩ := h2;exact ⟨e, a', w'', h3, .of_steps hst h4⟩
  have hst' := he'.step L0
  injection hch with hch
  subst hch;exact ⟨.panic (pan1 v), a, w', ⟨.pan d, env, H', μ', df, hp d H' hK, hs', VRs.step hst' hv, DfR.step hst' hd, ⟨v, rfl, hd'⟩, he.trans he'⟩, todo, hst⟩
class LAt (l : List Oper) (i : Nat) (o : outParam Oper) : Prop where
  eq : l[i]? = some o
instance LAt.zero {a : Oper} {l : List Oper} : LAt (a :: l) 0 a := ⟨rfl⟩
instance LAt.succ {a o : Oper} {l : List Oper} {n : Nat} [h : LAt l n o] : LAt (a :: l) (n + 1) o := ⟨by rw [List.getElem?_cons_succ]; exact h.eq⟩
theorem yo_at [h : LAt l i o] (hk : AOne C Q l.toArray o is k env H df) : ARun C Q (.inRegion l.toArray (i :: is) :: k) env H df := hk.out i (by simpa using h.eq)
theorem yo_op (hg : gOk ops.toList env o.guard = some true) (h : OpQ C o env H d) [hp : Put env o.dst d env'] (hk : ARun C Q (.inRegion ops is :: k) env' H df) : AOne C Q ops o is k env H df :=
  yo_opH hg h (fun d' H' ⟨h1, h2⟩ => by subst h1; subst h2; rw [hp.eq]; exact hk) (fun _ _ h => h.elim)
theorem Zew (hg : gOk ops.toList env o.guard = some true) (h : OpN C o env H d H') [hp : Put env o.dst d env'] (hk : ARun C Q (.inRegion ops is :: k) env' H' df) : AOne C Q ops o is k env H df :=
  yo_opH hg h (fun d' h' ⟨h1, h2⟩ => by subst h1; subst h2; rw [hp.eq]; exact hk) (fun _ _ h => h.elim)
theorem yo_nil (h : ARun C Q k env H df) : ARun C Q (.inRegion ops [] :: k) env H df := ZnK (fun _ _ _ _ => stepR_region_end) h
end
def Za6 (J : Heap) (e : TypeId) : List D → Heap
  | [] => J
  | c :: cs => J ++ [some ⟨c :: cs, e, 1, true, none⟩]
def Zcl (k : Nat) : List D → D
  | [] => .nilsl
  | c :: cs => .row k (cs.length + 1)
class GrowL (H : Heap) (n : outParam Nat) (J : outParam Heap) (e : outParam TypeId) (cs : outParam (List D)) (F : outParam (Heap → Heap)) : Prop where
  prf : ∃ B : Heap, B.length = n ∧ H = B ++ Za6 J e cs ∧ F = fun X => B ++ X
instance GrowL.base {J : Heap} {e : TypeId} {cs : List D} : GrowL (Za6 J e cs) 0 J e cs (fun X => X) := ⟨[], rfl, rfl, rfl⟩
section
variable {C : Ctx} {Q : Post} {k : List Item} {env env' : List D} {H H0 : Heap} {df : List ADef} {ops : Array Oper} {rest : List Oper} {i : Nat} {is : List Nat} {d dx : D}
variable {dst : Option Tmp} {ty : TypeId} {pos : String} {aft : Array Edge} {gd : Option (Nat × Bool)} {x y : Operand} {T e : TypeId} {te tee : TE} {n b S : Nat} {J : Heap} {cs : List D} {F : Heap → Heap} {zv : Value} {dz : D} {zs : List D}
theorem h_grow [g : GrowL H0 n J e cs F] (ht : C.ty T = some ⟨.slice e, S, b, zv⟩) (hee : C.ty e = some tee) (h1 : tee.size = 1) (hz : Zas tee.zero = some dz) (hzs : Z7 dz = some zs) (hzl : zs.length = 1)
    (hx : evO C env x = some (Zcl (n + J.length) cs)) (hy : evO C env y = some (.row H0.length 1)) (hH : H = H0 ++ [some ⟨[dx], e, 1, true, none⟩]) (hb : (cs.length + 1) * tee.bytes ≤ 140737488355328) (hm : cs.length + 1 ≤ 1099511627776) :
    OpH C ⟨dst, .call ⟨.builtin .append, #[x, y], #[T, T]⟩, ty, pos, aft, gd⟩ env H (fun d H' => ∃ J' : Heap, d = Zcl (n + J'.length) (cs ++ [dx]) ∧ H' = F (Za6 J' e (cs ++ [dx]))) (fun _ _ => False) := by
  obtain ⟨B, g1, g2, g3⟩ := g.prf;obtain ⟨sk, sz, sb, sv⟩ := tee;subst h1;subst g3;subst hH;subst g1
  have hsrc : srcD (H0 ++ [some ⟨[dx], e, 1, true, none⟩]) (.row H0.length 1) = some (1, [dx]) := by simp [srcD]
  replace hm : cs.length + 1 ≤ maxLen := by rw [Zy]; omega
  cases cs with
  | nil =>
    subst g2;have h := Zh2 (C := C) (dst := dst) (ty := ty) (pos := pos) (aft := aft) (gd := gd) (Zax ht) (ZU hee).1 (Nat.one_pos) hz hzs hzl hx hy hsrc rfl (by decide) (by simpa using hb) (by simpa using hm);refine OpH.mono ?_ (fun _ _ h => h) h;rintro d H' ⟨rfl, rfl⟩;refine ⟨J ++ [some ⟨[dx], e, 1, true, none⟩], ?_, ?_⟩
    · simp [Zcl, Za6, Nat.add_assoc]
    simp [Za6]
  | cons c cs =>
    subst g2
    have ho : (B ++ Za6 J e (c :: cs) ++ [some ⟨[dx], e, 1, true, none⟩])[B.length + J.length]? = some (some ⟨c :: cs, e, 1, true, none⟩) := by
      simp only [Za6];rw [List.append_assoc, List.getElem?_append_right (by omega), Nat.add_sub_cancel_left, List.append_assoc, List.getElem?_append_right (by omega)];simp
    have h := ZiQ (C := C) (dst := dst) (ty := ty) (pos := pos) (aft := aft) (gd := gd) (Zax ht) (ZU hee).1 (Nat.one_pos) hz hzs hzl (n := cs.length + 1) (m := 1) hx ho rfl rfl rfl hy hsrc rfl (by simpa using hb) (by simpa using hm);refine OpH.mono ?_ (fun _ _ h => h) h;rintro d H' ⟨rfl, rfl⟩;refine ⟨J ++ [none, some ⟨[dx], e, 1, true, none⟩], ?_, ?_⟩
    · simp [Zcl, Za6, Nat.add_assoc]
    have e1 : ∀ r t : Option AObj, B ++ (J ++ [r]) ++ [t] = (B ++ J) ++ [r, t] := fun r t => by simp
    simp only [Za6, List.cons_append];rw [e1, List.set_append_right _ _ (by simp), show B.length + J.length - (B ++ J).length = 0 by simp];simp
theorem Zju [g : GrowL H0 n J e cs F] {E : Heap → List D} (hg : gOk ops.toList env gd = some true) (ht : C.ty T = some ⟨.slice e, S, b, zv⟩) (hee : C.ty e = some tee) (h1 : tee.size = 1) (hz : Zas tee.zero = some dz) (hzs : Z7 dz = some zs) (hzl : zs.length = 1)
    (hx : evO C env x = some (Zcl (n + J.length) cs)) (hy : evO C env y = some (.row H0.length 1)) (hH : H = H0 ++ [some ⟨[dx], e, 1, true, none⟩]) (hb : (cs.length + 1) * tee.bytes ≤ 140737488355328) (hm : cs.length + 1 ≤ 1099511627776)
    [hp : ∀ J' : Heap, Put env dst (Zcl (n + J'.length) (cs ++ [dx])) (E J')] (hk : ∀ J' : Heap, AOps C Q ops rest k (E J') (F (Za6 J' e (cs ++ [dx]))) df) :
    AOps C Q ops (⟨dst, .call ⟨.builtin .append, #[x, y], #[T, T]⟩, ty, pos, aft, gd⟩ :: rest) k env H df :=
  ZnO hg (h_grow ht hee h1 hz hzs hzl hx hy hH hb hm) (fun d H' ⟨J', h1, h2⟩ => by subst h1; subst h2; have := (hp J').eq; simp only at this ⊢; rw [this]; exact hk J') (fun _ _ h => h.elim)
theorem ARun.growEnd [g : GrowL H n J e cs F] (t : Nat) (ht : env[t]? = some (Zcl (n + J.length) cs)) (hc : D.pure.pures cs = true) [hp : Put env (some t) (.sl cs.length cs) env'] (hk : ∀ J' : Heap, ARun C Q k env' (F J') df) : ARun C Q k env H df := by
  obtain ⟨B, g1, g2, g3⟩ := g.prf;subst g3; subst g2; subst g1;have hp := hp.eq;subst hp;have htl : t < env.length := (List.getElem?_eq_some_iff.1 ht).1
  cases cs with
  | nil =>
    have := hk J;refine ⟨fun L0 w0 μ0 H0 w μ a hs hv hd he b cs hrd => this.out L0 w0 μ0 H0 w μ a hs ?_ hd he b cs hrd⟩
    refine ZfE (by rw [ZJ hv]; simp [Zu]) fun j d v h1 h2 => ?_
    simp only [Zu, List.getElem?_set] at h1
    by_cases e : t = j
    · subst e
      simp only [htl, if_true] at h1
      injection h1 with h1; subst h1
      obtain ⟨v', h3, h4⟩ := Z2 hv ht
      rw [h2] at h3; injection h3 with h3; subst h3
      exact Fz.ok (H := []) hs .nil (by simp) h4
    rw [if_neg e] at h1;obtain ⟨v', h3, h4⟩ := Z2 hv h1
    rw [h2] at h3; injection h3 with h3; subst h3; exact h4
  | cons c cs' =>
    have ho : (B ++ Za6 J e (c :: cs'))[B.length + J.length]? = some (some ⟨c :: cs', e, 1, true, none⟩) := by
      simp only [Za6];rw [List.getElem?_append_right (by omega), Nat.add_sub_cancel_left, List.getElem?_append_right (by omega)];simp
    have hset : (B ++ Za6 J e (c :: cs')).set (B.length + J.length) (some ⟨c :: cs', e, 1, false, none⟩) = B ++ (J ++ [some ⟨c :: cs', e, 1, false, none⟩]) := by
      simp only [Za6];rw [List.set_append_right _ _ (by omega), Nat.add_sub_cancel_left, List.set_append_right _ _ (by omega)];simp
    have hw : HWeak (B ++ Za6 J e (c :: cs')) (B ++ (J ++ [some ⟨c :: cs', e, 1, false, none⟩])) := by rw [← hset]; exact HWeak.one ho
    have := hk (J ++ [some ⟨c :: cs', e, 1, false, none⟩]);refine ARun.weak hw ⟨fun L0 w0 μ0 H0 w μ a hs hv hd he b cs hrd => this.out L0 w0 μ0 H0 w μ a hs ?_ hd he b cs hrd⟩
    refine ZfE (by rw [ZJ hv]; simp [Zu]) fun j d v h1 h2 => ?_
    simp only [Zu, List.getElem?_set] at h1
    by_cases e : t = j
    · subst e
      simp only [htl, if_true] at h1
      injection h1 with h1; subst h1
      obtain ⟨v', h3, h4⟩ := Z2 hv ht
      rw [h2] at h3; injection h3 with h3; subst h3
      refine Fz.ok hs (.row ho hc) (fun i hi o ho' => ?_) h4;simp only [List.mem_cons, List.not_mem_nil, or_false] at hi;subst hi;rw [ho] at ho'
      injection ho' with ho'; injection ho' with ho'; subst ho'
      rw [← hset];rw [List.getElem?_set_self (List.getElem?_eq_some_iff.1 ho).1]
    rw [if_neg e] at h1;obtain ⟨v', h3, h4⟩ := Z2 hv h1
    rw [h2] at h3; injection h3 with h3; subst h3; exact h4
end
def dgs (b v : Nat) : List Nat := if h : v = 0 ∨ b < 2 then [] else (v % b) :: dgs b (v / b)
termination_by v
decreasing_by exact Nat.div_lt_self (by omega) (by omega)
theorem ZfV (b : Nat) : dgs b 0 = [] := by rw [dgs]; rw [dif_pos (.inl rfl)]
theorem Zfk {b v : Nat} (hb : 2 ≤ b) (hv : 0 < v) : dgs b v = (v % b) :: dgs b (v / b) := by rw [dgs]; rw [dif_neg (by omega)]
theorem dgs_lt {b : Nat} (hb : 2 ≤ b) : ∀ v : Nat, ∀ d ∈ dgs b v, d < b := by
  intro v
  induction v using Nat.strongRecOn with
  | _ v ih =>
    intro d hd
    rcases Nat.eq_zero_or_pos v with h0 | h0
    · subst h0; rw [ZfV] at hd; cases hd
    rw [Zfk hb h0] at hd
    rcases List.mem_cons.1 hd with rfl | hd
    · exact Nat.mod_lt _ (by omega)
    exact ih _ (Nat.div_lt_self h0 (by omega)) d hd
theorem puresAt : ∀ {l : List D} {j : Nat} {d : D}, D.pure.pures l = true → l[j]? = some d → d.pure = true
  | [], _, _, _, h => by simp at h
  | c :: l, j, d, h, hj => by
    simp only [D.pure.pures, Bool.and_eq_true] at h
    cases j with
    | zero => simp at hj; subst hj; exact h.1
    | succ j => simp only [List.getElem?_cons_succ] at hj; exact puresAt h.2 hj
theorem ObjR.move {w' w : World} {L : Nat → Prop} {μ μ' : List Nat} {H H' : Heap} {o : AObj} {b : Nat} (hsp : o.sp = none) (hp : D.pure.pures o.cells = true) (h : ObjR w' w L μ H o b) : ObjR w' w L μ' H' o b := by
  obtain ⟨cur, h1, h2, h3⟩ := h.row hsp;refine .of_row hsp ⟨cur, h1, h2, fun j d hd => ?_⟩;obtain ⟨v, k1, k2, k3⟩ := h3 j d hd;exact ⟨v, k1, k2, VR.lift (VR.drop (puresAt hp hd) k3)⟩
abbrev rowB (ys : List Nat) : Option AObj := some ⟨nts .u8 ys, ZeZ, 1, true, none⟩
structure RevI (xs ys : List Nat) (i : Nat) : Prop where
  l : ys.length = xs.length
  h : 2 * i ≤ xs.length + 1
  g : ∀ j, j < xs.length → ys.getD j 0 = if j < i ∨ xs.length ≤ j + i then xs.getD (xs.length - 1 - j) 0 else xs.getD j 0
theorem RevI.start (xs : List Nat) : RevI xs xs 0 := ⟨rfl, by omega, fun j hj => by rw [if_neg (by omega)]⟩
theorem getD_set {l : List Nat} {i j v : Nat} (hi : i < l.length) : (l.set i v).getD j 0 = if i = j then v else l.getD j 0 := by
  rw [List.getD_eq_getElem?_getD, List.getD_eq_getElem?_getD, List.getElem?_set]
  by_cases e : i = j
  · subst e; simp [hi]
  simp [e]
theorem RevI.step {xs ys : List Nat} {i j : Nat} (h : RevI xs ys i) (hij : i < j) (hj : j + i + 1 = xs.length) : RevI xs ((ys.set i (ys.getD j 0)).set j (ys.getD i 0)) (i + 1) := by
  have hl := h.l;refine ⟨by simp [hl], by omega, fun k hk => ?_⟩;rw [getD_set (by simp; omega), getD_set (by omega)]
  by_cases e1 : j = k
  · subst e1
    rw [if_pos rfl, if_pos (by omega), h.g i (by omega), if_neg (by omega), show xs.length - 1 - j = i by omega]
  rw [if_neg e1]
  by_cases e2 : i = k
  · subst e2
    rw [if_pos rfl, if_pos (by omega), h.g j (by omega), if_neg (by omega), show xs.length - 1 - i = j by omega]
  rw [if_neg e2, h.g k hk]
  by_cases e3 : k < i ∨ xs.length ≤ k + i
  · rw [if_pos e3, if_pos (by omega)]
  rw [if_neg e3, if_neg (by omega)]
theorem RevI.fin {xs ys : List Nat} {i : Nat} (h : RevI xs ys i) (hn : xs.length ≤ 2 * i + 1) : ys = xs.reverse := by
  have hl := h.l;apply List.ext_getElem?;intro j
  by_cases hj : j < xs.length
  · have e := h.g j hj
    have e2 : ys.getD j 0 = xs.getD (xs.length - 1 - j) 0 := by
      rw [e]
      by_cases e3 : j < i ∨ xs.length ≤ j + i
      · rw [if_pos e3]
      rw [if_neg e3, show xs.length - 1 - j = j by omega]
    rw [List.getElem?_reverse hj];rw [List.getD_eq_getElem?_getD, List.getD_eq_getElem?_getD] at e2;rw [List.getElem?_eq_getElem (show j < ys.length by omega), List.getElem?_eq_getElem (show xs.length - 1 - j < xs.length by omega)] at e2 ⊢
    simpa using e2
  rw [List.getElem?_eq_none (by omega), List.getElem?_eq_none (by simp; omega)]
theorem dgs_len {b : Nat} (hb : 2 ≤ b) : ∀ (n v : Nat), v < 2 ^ n → (dgs b v).length ≤ n := by
  intro n
  induction n with
  | zero => intro v h; have : v = 0 := by omega
            subst this; rw [ZfV]; exact Nat.le_refl _
  | succ n ih =>
    intro v h
    rcases Nat.eq_zero_or_pos v with h0 | h0
    · subst h0; rw [ZfV]; exact Nat.zero_le _
    rw [Zfk hb h0, List.length_cons]
    have : v / b < 2 ^ n := by
      rw [Nat.div_lt_iff_lt_mul (by omega)];have : 2 ^ n * 2 ≤ 2 ^ n * b := Nat.mul_le_mul_left _ hb;rw [Nat.pow_succ] at h;omega
    have := ih _ this;omega
theorem B_pow2 (n : Nat) : B ^ n = 2 ^ (32 * n) := by rw [Nat.pow_mul]; rfl
theorem dgs_fit {b a : Nat} (hb : 2 ≤ b) (ha : (lim a).length ≤ 1024) : (dgs b a).length ≤ 32768 := by
  suffices h : ∀ N, 32 * (lim a).length ≤ N → (dgs b a).length ≤ N from h _ (by omega)
  intro N hN;apply dgs_len hb;have h1 := ZcV a;rw [B_pow2] at h1;exact Nat.lt_of_lt_of_le h1 (Nat.pow_le_pow_right (by decide) hN)
theorem srcD_row {H : Heap} {id n : Nat} {o : AObj} (h : H[id]? = some (some o)) : srcD H (.row id n) = some (n, o.cells) := by simp only [srcD, h]
theorem Zfl (l : List Nat) : (ZbV l).size = l.length := by simp [ZbV, ByteArray.size]
theorem Zdy {k : IntKind} {xs : List Nat} {x : Nat} : nts k xs ++ [.int k (x : Int)] = nts k (xs ++ [x]) := by simp [nts]
theorem ZcL {k : IntKind} {xs : List Nat} : (nts k xs).length = xs.length := by simp [nts]
theorem ZiH {k : IntKind} {xs : List Nat} : D.sl (nts k xs).length (nts k xs) = sln k xs := by rw [ZcL]
theorem Zmc (xs : List Nat) (hx : U32 xs) (i : Nat) : PC C 168 [sln .u32 xs, .int .i64 (i : Int)] (fun o => o = .ret (.int .u64 ((xs.getD i 0 : Nat) : Int))) := by
  refine Znr Tryz.func168 Tryz.ntmps168 Tryz.results168 ?_;have hd := hx.get i;refine go ?_;refine Znp rfl (fun h => ?_) (fun h => ?_)
  · skip
    refine go ?_;refine Zno ?_;rw [getD_ge (by omega)]
    try rfl
  refine go ?_;refine Za rfl (Zm (i := i) rfl rfl rfl rfl (by omega) (by omega) (Zam (by omega)) (ZM rfl)) ?_;refine Za rfl (ZP rfl rfl rfl (Zb8 (i := i) (by omega))) ?_;refine Za rfl (Zo rfl rfl rfl (Zt (by omega))) ?_;refine go ?_;refine Zno ?_;rfl
theorem Zbf (a i : Nat) : PC C 168 [numD a, .int .i64 (i : Int)] (fun o => o = .ret (.int .u64 ((dig a i : Nat) : Int))) :=
  (Zmc (lim a) (Zz a) i).mono fun o ho => by rw [ho, ZiE]
theorem ZlO (xs : List Nat) : PC C 149 [sln .u32 xs] (fun o => o = .ret (.bool (okB xs))) := by
  refine Znr Tryz.func149 Tryz.ntmps149 Tryz.results149 ?_;refine ZnG 0 rfl (fun hlen => ?_);rw [Zy] at hlen;refine zzs ?_; refine zza ?_; refine zzt ?_; refine Zr ?_; refine zzN ?_; refine zzi ?_; refine Zr ?_;refine AOps.bool 6 rfl (fun h1 => ?_) (fun h1 => ?_)
  · skip
    replace h1 := Zh h1;refine Zr ?_; refine zzN ?_; refine zzi ?_; refine Zr ?_;refine AOps.bool 10 rfl (fun h2 => ?_) (fun h2 => ?_)
    · skip
      replace h2 : (xs.length : Int) = 0 := by simpa using h2
      refine go ?_;refine Zno ?_;rw [Zge.2 (Zdd.2 ⟨by omega, .inl (by omega)⟩)]
      try rfl
    replace h2 : ¬ (xs.length : Int) = 0 := by simpa using h2
    refine gn ?_;refine Za rfl (Zk rfl rfl (ZY (by omega) (by omega))) ?_;refine Za rfl (Zm rfl rfl rfl rfl (by omega) (by omega) (Zam (by omega)) (ZM rfl)) ?_;refine Za rfl (ZP rfl rfl rfl (Zb8 (by omega))) ?_;refine go ?_;refine Zno ?_
    have e : okB xs = (((xs.getD (xs.length - 1) 0 : Nat) : Int) != 0) := by
      by_cases hz : xs.getD (xs.length - 1) 0 = 0
      · have : ¬ Zed xs := fun x => by
          rcases (Zdd.1 x).2 with y | y
          · omega
          exact y hz
        rw [okB_not.2 this, hz];rfl
      rw [Zge.2 (Zdd.2 ⟨by omega, .inr hz⟩)]
      have : ¬ ((xs.getD (xs.length - 1) 0 : Nat) : Int) = 0 := by omega
      simp only [bne, beq_eq_false_iff_ne.2 this, Bool.not_false]
    rw [e]
    try rfl
  replace h1 := Zj h1;refine go ?_;refine Zno ?_
  have : ¬ Zed xs := fun x => by have := x.1; omega
  rw [okB_not.2 this]
  try rfl
theorem ZdV (xs : List Nat) (hx : U32 xs) (hl : xs.length ≤ 35184372088832) : PC C 165 [sln .u32 xs] (fun o => o = .ret (numD (val xs))) := by
  refine Znr Tryz.func165 Tryz.ntmps165 Tryz.results165 ?_;refine go ?_;refine Znw (S := Nat) (fun n : Nat => [(6, .any), (7, .any), (8, .any), (9, .any), (10, .any), (11, .any), (12, .any), (13, .any), (14, .any), (15, .any), (16, .any), (17, .any), (3, .int .i64 (n : Int))]) (fun n : Nat => []) (fun n : Nat => n ≤ xs.length ∧ val (xs.take n) = val xs) (fun n : Nat => n) (xs.length) ?_ ?_
  · exact ⟨Nat.le_refl _, by rw [List.take_length]⟩
  rintro n hinv ih;obtain ⟨hn, hv⟩ := hinv;refine ARun.seq (zzs ?_); refine Zr ?_; refine zzi ?_; refine Zr ?_;refine AOps.bool 8 rfl (fun h => ?_) (fun h => ?_)
  · skip
    replace h := Zh h;obtain ⟨m, rfl⟩ : ∃ m, n = m + 1 := ⟨n - 1, by omega⟩;refine gn ?_;refine Za rfl (Zk rfl rfl (ZY (by omega) (by omega))) ?_;refine Za rfl (Zm (i := m) rfl rfl rfl rfl (by omega) (by omega) (Zam (by omega)) (ZM rfl)) ?_;refine Za rfl (ZP rfl rfl rfl (Zb8 (i := m) (by omega))) ?_;refine go ?_;refine Znp rfl (fun h2 => ?_) (fun h2 => ?_)
    · skip
      refine gn ?_;refine Za rfl (Zk rfl rfl (ZY (by omega) (by omega))) ?_;refine go ?_;refine ARun.ag (ih (m) ?_ ?_)
      · exact ⟨by omega, by rw [← hv, List.take_add_one, ZV, show xs[m]? = some 0 by rw [List.getElem?_eq_getElem (by omega)]; have : xs.getD m 0 = 0 := (by omega); rw [List.getD_eq_getElem?_getD, List.getElem?_eq_getElem (by omega)] at this; exact congrArg some this]; simp [val]⟩
      exact Nat.lt_succ_self _
    refine ARun.exit rfl ?_;refine zzs ?_;refine Zq rfl (Z9 rfl rfl rfl rfl rfl rfl rfl rfl rfl rfl rfl (by decide) (by decide)) ?_;refine go ?_;refine Za rfl (Ze0 (m := (xs.take (m + 1)).length) (ds := nts .u32 (xs.take (m + 1))) rfl rfl rfl rfl rfl (Zg5 rfl rfl) (by omega) (by omega) (by simp) (by simp; omega) (by rw [Zdc]; simp)) ?_;refine Zq rfl (Zdn rfl rfl (by decide) rfl rfl rfl rfl rfl rfl rfl rfl rfl rfl (by simp) (by simp; omega) (by rw [Zy]; simp; omega) rfl) ?_;refine zza ?_; refine AOps.nil ?_;have hc : Canon (xs.take (m + 1)) := .inr (by rw [List.length_take, Nat.min_eq_left (by omega), Nat.add_sub_cancel, List.getD_eq_getElem?_getD, List.getElem?_take, if_pos (by omega), ← List.getD_eq_getElem?_getD]; omega);refine ARun.ret ?_;refine ⟨_, _, _, .tmp rfl .nil, .cons (.row rfl (ZT _)) .nil, rfl, ?_⟩;rw [← hv, numD, Zg8 (hx.take _) hc];show Out.ret (D.sl (0 + _) _) = _;rw [Nat.zero_add];rfl
  replace h := Zj h
  have hn0 : n = 0 := by omega
  subst hn0;refine go ?_;refine Znx rfl ?_;refine ARun.exit rfl ?_;refine zzs ?_;refine Zq rfl (Z9 rfl rfl rfl rfl rfl rfl rfl rfl rfl rfl rfl (by decide) (by decide)) ?_;refine go ?_;refine Za rfl (Ze0 (m := 0) (ds := nts .u32 []) rfl rfl rfl rfl rfl (bnd_int rfl (by omega)) (by omega) (by omega) (by simp) (by simp) (by rw [Zdc]; simp)) ?_;refine Zq rfl (Zdn rfl rfl (by decide) rfl rfl rfl rfl rfl rfl rfl rfl rfl rfl (by simp) (by simp) (by rw [Zy]; simp) rfl) ?_;refine go ?_;refine ARun.ret ?_;refine ⟨_, _, _, .tmp rfl .nil, .cons (.row rfl (ZT _)) .nil, rfl, ?_⟩;rw [← hv, List.take_zero, numD, val, ZA];rfl
theorem ZcH {xs : List Nat} {n : Nat} (hx : U32 xs) (hn : xs.length = n) (hl : n ≤ 35184372088832) : PC C 165 [.sl n (nts .u32 xs)] (fun o => o = .ret (numD (val xs))) := by
  subst hn; exact ZdV xs hx hl
theorem Znj (n : Nat) (hn : n < 18446744073709551616) : PC C 234 [.int .u64 (n : Int)] (fun o => o = .ret (numD n)) := by
  refine Znr Tryz.func234 Tryz.ntmps234 Tryz.results234 ?_;have hu : U32 [n % 4294967296, n / 4294967296 % 4294967296] := U32.cons (Nat.mod_lt _ (by decide)) (U32.cons (Nat.mod_lt _ (by decide)) U32.nil)
  have hv : val [n % 4294967296, n / 4294967296 % 4294967296] = n := by
    simp only [val, B_eq]; omega
  refine go ?_;refine Za rfl (Zo rfl rfl rfl ZX) ?_;refine Zr ?_;refine Za rfl (Za5 rfl rfl (by omega) Zcn) ?_;refine Za rfl (Zo rfl rfl rfl ZX) ?_;refine Zq rfl (Z9 rfl rfl rfl rfl rfl rfl rfl rfl rfl rfl rfl (by decide) (by decide)) ?_;refine Zq rfl (Zcm rfl rfl (.cons (.row rfl rfl) .nil) (ZcH (xs := [n % 4294967296, n / 4294967296 % 4294967296]) hu rfl (by decide)) rfl) ?_;refine go ?_;refine Zno ?_;rw [hv]
  try rfl
theorem Zmp (xs : List Nat) : PC C 244 [sln .u32 xs] (fun o => o = .ret (.bool (decide (xs.length ≤ 1024)))) := by
  refine Znr Tryz.func244 Tryz.ntmps244 Tryz.results244 ?_;refine go ?_;refine Zno ?_
  have : decide ((xs.length : Int) ≤ 1024) = decide (xs.length ≤ 1024) := by
    by_cases h : xs.length ≤ 1024
    · rw [decide_eq_true h, decide_eq_true (by omega)]
    rw [decide_eq_false h, decide_eq_false (by omega)]
  rw [← this]
  try rfl
theorem Zj5 (xs ys : List Nat) : PC C 126 [sln .u32 xs, sln .u32 ys] (fun o => o = .ret (.bool (decide (xs = ys)))) := by
  refine Znr Tryz.func126 Tryz.ntmps126 Tryz.results126 ?_;refine ZnG 0 rfl (fun hlen => ?_);rw [Zy] at hlen;refine go ?_;refine ARun.cond rfl (fun h => ?_) (fun h => ?_)
  · skip
    have hne : xs.length ≠ ys.length := by intro e; rw [e] at h; simp at h
    refine go ?_;refine Zno ?_;rw [decide_eq_false (fun e => hne (by rw [e]))]
    try rfl
  have hl : xs.length = ys.length := by have h : (xs.length : Int) = ys.length := by simpa using h
                                        omega
  refine go ?_;refine Znw (S := Nat) (fun i : Nat => [(4, .any), (11, .any), (12, .any), (13, .any), (14, .any), (15, .any), (16, .any), (17, .any), (18, .any), (19, .any), (20, .any), (21, .any), (22, .any), (23, .any), (24, .any), (25, .any), (5, .int .i64 (i : Int))]) (fun i : Nat => []) (fun i : Nat => i ≤ xs.length ∧ ∀ j, j < i → xs.getD j 0 = ys.getD j 0) (fun i : Nat => xs.length - i) (0) ?_ ?_
  · exact ⟨Nat.zero_le _, fun j h => absurd h (Nat.not_lt_zero _)⟩
  rintro i hinv ih;obtain ⟨hi, hs⟩ := hinv;refine go ?_;refine Znp rfl (fun h2 => ?_) (fun h2 => ?_)
  · skip
    refine go ?_;refine zdr 9 mixC ?_;refine gd ?_;refine .op rfl (Zm (i := i) rfl rfl rfl rfl (by omega) (by omega) (Zam (by omega)) (ZM rfl)) ?_;refine .op rfl (ZP rfl rfl rfl (Zb8 (i := i) (by omega))) ?_;refine gd ?_;refine .op rfl (Zm (i := i) rfl rfl rfl rfl (by omega) (by omega) (Zam (by omega)) (ZM rfl)) ?_;refine .op rfl (ZP rfl rfl rfl (Zb8 (i := i) (by omega))) ?_;refine .op rfl (Zaa rfl rfl rfl) ?_;refine .nil (fun hG => ?_);refine AOps.nil ?_;refine ARun.cond rfl (fun h3 => ?_) (fun h3 => ?_)
    · skip
      refine go ?_;refine Zno ?_;rw [decide_eq_false (fun e => by rw [e] at h3; simp at h3)]
      try rfl
    have h3 : xs.getD i 0 = ys.getD i 0 := by
      have : ((xs.getD i 0 : Nat) : Int) = ((ys.getD i 0 : Nat) : Int) := by simpa using h3
      omega
    refine gn ?_;refine Za rfl (Zf rfl rfl (Zi (by omega))) ?_;refine go ?_;refine ARun.ag (ih ((i + 1)) ?_ ?_)
    · exact ⟨by omega, fun j hj => by rcases Nat.lt_succ_iff_lt_or_eq.1 hj with h | rfl; exact hs j h; exact h3⟩
    omega
  have hie : i = xs.length := by omega
  refine ARun.exit rfl ?_;refine go ?_;refine Zno ?_
  have : xs = ys := by
    apply List.ext_getElem?;intro j
    by_cases hj : j < xs.length
    · have := hs j (by omega)
      rw [List.getD_eq_getElem?_getD, List.getD_eq_getElem?_getD, List.getElem?_eq_getElem hj, List.getElem?_eq_getElem (by omega)] at this;rw [List.getElem?_eq_getElem hj, List.getElem?_eq_getElem (by omega)];exact congrArg some this
    rw [List.getElem?_eq_none (by omega), List.getElem?_eq_none (by omega)]
  rw [decide_eq_true this]
  try rfl
theorem ZeK (a b : Nat) (hA : (lim a).length ≤ 1099511627776) (hB : (lim b).length ≤ 1099511627776) : PC C 110 [numD a, numD b] (fun o => o = .ret (.int .i64 (cmpI a b))) := by
  refine Znr Tryz.func110 Tryz.ntmps110 Tryz.results110 ?_;refine gn ?_;refine Za rfl (q_maxR rfl rfl nmax) ?_;refine Za rfl (Zk rfl rfl (IntWalk.i64_in _ (by omega))) ?_;refine go ?_;refine Znw (S := Nat × Int) (fun σ : Nat × Int => [(4, .any), (12, .any), (13, .any), (14, .any), (15, .any), (16, .any), (17, .any), (18, .any), (19, .any), (20, .any), (21, .any), (22, .any), (23, .any), (24, .any), (25, .any), (26, .any), (27, .any), (28, .any), (29, .any), (5, .int .i64 σ.2)]) (fun σ : Nat × Int => []) (fun σ : Nat × Int => σ.2 = (σ.1 : Int) - 1 ∧ σ.1 ≤ max (lim a).length (lim b).length ∧ a / B ^ σ.1 = b / B ^ σ.1) (fun σ : Nat × Int => σ.1) ((max (lim a).length (lim b).length, ((max (lim a).length (lim b).length : Nat) : Int) - 1)) ?_ ?_
  · exact ⟨rfl, Nat.le_refl _, by dsimp only; rw [Nat.div_eq_of_lt (Z6.1 (Nat.le_max_left _ _)), Nat.div_eq_of_lt (Z6.1 (Nat.le_max_right _ _))]⟩
  rintro ⟨i, t⟩ hinv ih;dsimp only at hinv ih ⊢;obtain ⟨ht, hi, hw⟩ := hinv;refine go ?_;refine ARun.cond rfl (fun h => ?_) (fun h => ?_)
  · skip
    have h := Zh h;obtain ⟨j, rfl⟩ : ∃ j, i = j + 1 := ⟨i - 1, by omega⟩
    obtain rfl : t = (j : Int) := by omega
    have ea := Zhf a j;have eb := Zhf b j;refine go ?_;refine Zc rfl rfl (Zbf a j) ?_;refine go ?_;refine Zc rfl rfl (Zbf b j) ?_;refine go ?_;refine Znp rfl (fun h3 => ?_) (fun h3 => ?_)
    · skip
      refine go ?_;refine Zno ?_;have hlt : a < b := Zgd (k := B ^ j) (by rw [ea, eb, hw]; omega);rw [Zhg hlt]; try rfl
    refine go ?_;refine Zc rfl rfl (Zbf a j) ?_;refine go ?_;refine Zc rfl rfl (Zbf b j) ?_;refine go ?_;refine Znp rfl (fun h4 => ?_) (fun h4 => ?_)
    · skip
      refine go ?_;refine Zno ?_;have hlt : b < a := Zgd (k := B ^ j) (by rw [ea, eb, hw]; omega);rw [Zfi hlt]; try rfl
    refine gn ?_;refine Za rfl (Zk rfl rfl (IntWalk.i64_in _ (by omega))) ?_;refine go ?_;refine ARun.ag (ih ((j, (j : Int) - 1)) ?_ ?_)
    · exact ⟨rfl, by dsimp only; omega, by have : dig a j = dig b j := (by omega); dsimp only; rw [ea, eb, hw, this]⟩
    exact Nat.lt_succ_self _
  have h := Zj h
  have hi0 : i = 0 := by omega
  subst hi0;refine ARun.exit rfl ?_;refine go ?_;refine Zno ?_;rw [Nat.pow_zero, Nat.div_one, Nat.div_one] at hw;rw [ZiG hw]; try rfl
theorem U32.snoc {xs : List Nat} {x : Nat} (h : U32 xs) (hx : x < 4294967296) : U32 (xs ++ [x]) := fun y hy => by
  rcases List.mem_append.1 hy with h1 | h1
  · exact h y h1
  rw [List.mem_singleton.1 h1]; exact hx
theorem addA_step {a b i c : Nat} {ys : List Nat} (hu : U32 ys) (hl : ys.length = i) (hc : c ≤ 1) (hv : val ys + B ^ i * c = a % B ^ i + b % B ^ i) :
    U32 (ys ++ [(dig a i + dig b i + c) % 4294967296]) ∧ (ys ++ [(dig a i + dig b i + c) % 4294967296]).length = i + 1 ∧ (dig a i + dig b i + c) / 4294967296 ≤ 1 ∧
      val (ys ++ [(dig a i + dig b i + c) % 4294967296]) + B ^ (i + 1) * ((dig a i + dig b i + c) / 4294967296) = a % B ^ (i + 1) + b % B ^ (i + 1) := by
  have d1 := ZF a i;have d2 := ZF b i;refine ⟨hu.snoc (Nat.mod_lt _ (by decide)), by simp [hl], by omega, ?_⟩;rw [ZV, hl, Zat, Zat, Nat.pow_succ, Nat.mul_assoc];generalize hs : dig a i + dig b i + c = s
  have h1 : B ^ i * (s % 4294967296) + B ^ i * (B * (s / 4294967296)) = B ^ i * s := by
    rw [← Nat.mul_add]; congr 1; exact Nat.mod_add_div s B
  have h2 : B ^ i * s = B ^ i * c + (B ^ i * dig a i + B ^ i * dig b i) := by rw [← hs, Nat.mul_add, Nat.mul_add]; omega
  simp only [val, Nat.mul_zero, Nat.add_zero];omega
theorem addA_end {a b c n : Nat} {ys : List Nat} (hl : ys.length = n) (ha : (lim a).length < n) (hb : (lim b).length < n) (hu : U32 ys) (hv : val ys + B ^ n * c = a % B ^ n + b % B ^ n) : val ys = a + b :=
  add_end hl ha hb hu (by rw [List.take_of_length_le (by omega)]; exact hv)
theorem Zfz (a b : Nat) (ha : (lim a).length ≤ 1099511627) (hb : (lim b).length ≤ 1099511627) : PC C 111 [numD a, numD b] (fun o => o = .ret (numD (a + b))) := by
  refine Znr Tryz.func111 Tryz.ntmps111 Tryz.results111 ?_;refine go ?_;refine Znw (S := Nat × Nat × List Nat × Heap) (fun σ : Nat × Nat × List Nat × Heap => [(8, .any), (9, .any), (10, .any), (11, .any), (12, .any), (13, .any), (14, .any), (15, .any), (16, .any), (17, .any), (18, .any), (19, .any), (20, .any), (21, .any), (22, .any), (23, .any), (24, .any), (25, .any), (26, .any), (27, .any), (28, .any), (29, .any), (30, .any), (31, .any), (32, .any), (33, .any), (5, Zcl (0 + σ.2.2.2.length) (nts .u32 σ.2.2.1)), (6, .int .u64 (σ.2.1 : Int)), (7, .int .i64 (σ.1 : Int))]) (fun σ : Nat × Nat × List Nat × Heap => Za6 σ.2.2.2 Zs (nts .u32 σ.2.2.1)) (fun σ : Nat × Nat × List Nat × Heap => U32 σ.2.2.1 ∧ σ.2.2.1.length = σ.1 ∧ σ.1 ≤ max ((lim a).length) ((lim b).length) + 1 ∧ σ.2.1 ≤ 1 ∧ val σ.2.2.1 + B ^ σ.1 * σ.2.1 = a % B ^ σ.1 + b % B ^ σ.1) (fun σ : Nat × Nat × List Nat × Heap => max ((lim a).length) ((lim b).length) + 1 - σ.1) ((0, 0, [], [])) ?_ ?_
  · exact ⟨U32.nil, rfl, Nat.zero_le _, by simp, by simp [val, Nat.mod_one]⟩
  rintro ⟨i, c, ys, J⟩ hinv ih;dsimp only at hinv ih ⊢;obtain ⟨hu, hl, hi, hc, hv⟩ := hinv
  have hbl : (nts .u32 ys).length = i := by rw [ZcL, hl]
  refine gn ?_;refine Za rfl (q_maxR rfl rfl nmax) ?_;refine go ?_;refine Znp rfl (fun h => ?_) (fun h => ?_)
  · skip
    have d1 := ZF a i;have d2 := ZF b i;refine go ?_;refine Zc rfl rfl (Zbf a i) ?_;refine go ?_;refine Zc rfl rfl (Zbf b i) ?_;refine Za rfl (Zf rfl rfl (Zaf (by omega))) ?_;refine Zr ?_;refine Za rfl (Zf rfl rfl (Zaf (by omega))) ?_;refine go ?_;refine Za rfl (Zo rfl rfl rfl ZX) ?_;refine Zq rfl (Z9 rfl rfl rfl rfl rfl rfl rfl rfl rfl rfl rfl (by decide) (by decide)) ?_;refine Zju rfl rfl rfl rfl rfl rfl rfl rfl rfl rfl (by show (_ + 1) * 4 ≤ _; omega) (by omega) (fun J' => ?_);rw [Zdy];refine gn ?_;refine Za rfl (Za5 rfl rfl (by omega) Zcn) ?_;refine gn ?_;refine Za rfl (Zf rfl rfl (Zi (by omega))) ?_;refine go ?_;refine ARun.ag (ih ((i + 1, (dig a i + dig b i + c) / 4294967296, ys ++ [(dig a i + dig b i + c) % 4294967296], J')) ?_ ?_)
    · (obtain ⟨k1, k2, k3, k4⟩ := addA_step hu hl hc hv; exact ⟨k1, k2, by dsimp only; omega, k3, k4⟩)
    (dsimp only; omega)
  have hin : i = max (lim a).length (lim b).length + 1 := by omega
  refine ARun.growEnd 5 rfl (ZT _) (fun J' => ?_);rw [ZiH];refine ARun.exit rfl ?_;refine go ?_;refine Zc rfl rfl (ZdV ys hu (by omega)) ?_;refine go ?_;refine Zno ?_;rw [addA_end hl (by omega) (by omega) hu hv]
  try rfl
theorem subA_step {a b i c : Nat} {ys : List Nat} (hu : U32 ys) (hl : ys.length = i) (hc : c ≤ 1) (hv : val ys + b % B ^ i = a % B ^ i + B ^ i * c) :
    U32 (ys ++ [Zcy (dig a i) (dig b i) c]) ∧ (ys ++ [Zcy (dig a i) (dig b i) c]).length = i + 1 ∧ subC (dig a i) (dig b i) c ≤ 1 ∧
      val (ys ++ [Zcy (dig a i) (dig b i) c]) + b % B ^ (i + 1) = a % B ^ (i + 1) + B ^ (i + 1) * subC (dig a i) (dig b i) c := by
  refine ⟨hu.snoc (Zjg _ _ _), by simp [hl], subC_le _ _ _, ?_⟩;rw [ZV, hl, Zat, Zat, Nat.pow_succ, Nat.mul_assoc];have h := congrArg (B ^ i * ·) (ZhS (ZF a i) (ZF b i) hc);simp only [Nat.mul_add] at h;have hB : B ^ i * (4294967296 * subC (dig a i) (dig b i) c) = B ^ i * (B * subC (dig a i) (dig b i) c) := rfl;simp only [val, Nat.mul_zero, Nat.add_zero];omega
theorem ZeL (a b : Nat) (ha : (lim a).length ≤ 1099511627) (hba : b ≤ a) : PC C 112 [numD a, numD b] (fun o => o = .ret (numD (a - b))) := by
  refine Znr Tryz.func112 Tryz.ntmps112 Tryz.results112 ?_;refine go ?_;refine Znw (S := Nat × Nat × List Nat × Heap) (fun σ : Nat × Nat × List Nat × Heap => [(8, .any), (9, .any), (10, .any), (11, .any), (12, .any), (13, .any), (14, .any), (15, .any), (16, .any), (17, .any), (18, .any), (19, .any), (20, .any), (21, .any), (22, .any), (23, .any), (24, .any), (25, .any), (26, .any), (27, .any), (28, .any), (29, .any), (30, .any), (5, Zcl (0 + σ.2.2.2.length) (nts .u32 σ.2.2.1)), (6, .int .u64 (σ.2.1 : Int)), (7, .int .i64 (σ.1 : Int))]) (fun σ : Nat × Nat × List Nat × Heap => Za6 σ.2.2.2 Zs (nts .u32 σ.2.2.1)) (fun σ : Nat × Nat × List Nat × Heap => U32 σ.2.2.1 ∧ σ.2.2.1.length = σ.1 ∧ σ.1 ≤ (lim a).length ∧ σ.2.1 ≤ 1 ∧ val σ.2.2.1 + b % B ^ σ.1 = a % B ^ σ.1 + B ^ σ.1 * σ.2.1) (fun σ : Nat × Nat × List Nat × Heap => (lim a).length - σ.1) ((0, 0, [], [])) ?_ ?_
  · exact ⟨U32.nil, rfl, Nat.zero_le _, by simp, by simp [val, Nat.mod_one]⟩
  rintro ⟨i, c, ys, J⟩ hinv ih;dsimp only at hinv ih ⊢;obtain ⟨hu, hl, hi, hc, hv⟩ := hinv
  have hbl : (nts .u32 ys).length = i := by rw [ZcL, hl]
  refine go ?_;refine Znp rfl (fun h => ?_) (fun h => ?_)
  · skip
    have d1 := ZF a i;have d2 := ZF b i;refine go ?_;refine Zc rfl rfl (Zbf a i) ?_;refine go ?_;refine Zc rfl rfl (Zbf b i) ?_;refine Za rfl (Zk rfl rfl rfl) ?_;refine Zr ?_;refine Za rfl (Zk rfl rfl rfl) ?_;refine go ?_;refine Za rfl (Zo rfl rfl rfl (Zjf d1 d2 hc)) ?_;refine Zq rfl (Z9 rfl rfl rfl rfl rfl rfl rfl rfl rfl rfl rfl (by decide) (by decide)) ?_;refine Zju rfl rfl rfl rfl rfl rfl rfl rfl rfl rfl (by show (_ + 1) * 4 ≤ _; omega) (by omega) (fun J' => ?_);rw [Zdy];refine gn ?_;refine Za rfl (Za5 rfl rfl (by omega) (sub_c d1 d2 hc)) ?_;refine gn ?_;refine Za rfl (Zf rfl rfl (Zi (by omega))) ?_;refine go ?_;refine ARun.ag (ih ((i + 1, subC (dig a i) (dig b i) c, ys ++ [Zcy (dig a i) (dig b i) c], J')) ?_ ?_)
    · (obtain ⟨k1, k2, k3, k4⟩ := subA_step hu hl hc hv; exact ⟨k1, k2, by dsimp only; omega, k3, k4⟩)
    (dsimp only; omega)
  have hin : i = (lim a).length := by omega
  refine ARun.growEnd 5 rfl (ZT _) (fun J' => ?_);rw [ZiH];refine ARun.exit rfl ?_;refine go ?_;refine Zc rfl rfl (ZdV ys hu (by omega)) ?_;refine go ?_;refine Zno ?_;rw [sub_end hl (by omega) hba hc hu (by rw [List.take_of_length_le (by omega)]; exact hv)]
  try rfl
theorem Zcx (a b : Nat) (ha : (lim a).length ≤ 1099511627) (hb : (lim b).length ≤ 1099511627) : PC C 92 [numD a, numD b] (fun o => o = .ret (numD (a * b))) := by
  refine Znr Tryz.func92 Tryz.ntmps92 Tryz.results92 ?_;refine gn ?_;refine Za rfl (Zf rfl rfl (Z1 (by omega))) ?_;refine Zq rfl (ZaG rfl rfl rfl rfl rfl rfl rfl (by omega) (by rw [Zy]; omega) (Za0 _)) ?_;refine go ?_;refine Znw (S := Nat × List Nat) (fun σ : Nat × List Nat => [(7, .any), (8, .any), (9, .any), (16, .any), (17, .any), (18, .any), (19, .any), (20, .any), (21, .any), (22, .any), (23, .any), (24, .any), (25, .any), (26, .any), (27, .any), (28, .any), (29, .any), (30, .any), (31, .any), (32, .any), (33, .any), (34, .any), (35, .any), (36, .any), (37, .any), (38, .any), (39, .any), (40, .any), (41, .any), (42, .any), (43, .any), (44, .any), (45, .any), (46, .any), (47, .any), (48, .any), (49, .any), (50, .any), (51, .any), (52, .any), (53, .any), (54, .any), (55, .any), (56, .any), (57, .any), (58, .any), (59, .any), (60, .any), (61, .any), (62, .any), (63, .any), (64, .any), (65, .any), (6, .int .i64 (σ.1 : Int))]) (fun σ : Nat × List Nat => [some ⟨nts .u32 σ.2, Zs, 1, true, none⟩]) (fun σ : Nat × List Nat => U32 σ.2 ∧ σ.2.length = (lim a).length + (lim b).length ∧ σ.1 ≤ (lim a).length ∧ val (σ.2.take (σ.1 + (lim b).length)) = a % B ^ σ.1 * b) (fun σ : Nat × List Nat => (lim a).length - σ.1) ((0, List.replicate ((lim a).length + (lim b).length) 0)) ?_ ?_
  · exact ⟨U32.replicate, by simp, by simp, by simp [Zcz, Nat.mod_one]⟩
  rintro ⟨i, ys⟩ hinv ih;dsimp only at hinv ih ⊢;obtain ⟨hu, hl, hi, hv⟩ := hinv;refine go ?_;refine Znp rfl (fun h => ?_) (fun h => ?_)
  · skip
    have d1 := ZF a i;refine go ?_;refine Znw (S := Nat × Nat × List Nat) (fun σ : Nat × Nat × List Nat => [(9, .any), (22, .any), (23, .any), (24, .any), (25, .any), (26, .any), (27, .any), (28, .any), (29, .any), (30, .any), (31, .any), (32, .any), (33, .any), (34, .any), (35, .any), (36, .any), (37, .any), (38, .any), (39, .any), (40, .any), (41, .any), (42, .any), (43, .any), (44, .any), (45, .any), (46, .any), (47, .any), (48, .any), (49, .any), (50, .any), (51, .any), (52, .any), (53, .any), (54, .any), (55, .any), (56, .any), (57, .any), (8, .int .i64 (σ.1 : Int)), (7, .int .u64 (σ.2.1 : Int))]) (fun σ : Nat × Nat × List Nat => [some ⟨nts .u32 σ.2.2, Zs, 1, true, none⟩]) (fun σ : Nat × Nat × List Nat => U32 σ.2.2 ∧ σ.2.2.length = (lim a).length + (lim b).length ∧ σ.1 ≤ (lim b).length ∧ σ.2.1 < 4294967296 ∧ (∀ p, i + σ.1 ≤ p → p < i + (lim b).length → σ.2.2.getD p 0 = dig (a % B ^ i * b) p) ∧ val (σ.2.2.take (i + σ.1)) + B ^ (i + σ.1) * σ.2.1 = (a % B ^ i * b) % B ^ (i + σ.1) + B ^ i * (dig a i * (b % B ^ σ.1))) (fun σ : Nat × Nat × List Nat => (lim b).length - σ.1) ((0, 0, ys)) ?_ ?_
    · exact ⟨hu, hl, by simp, by simp, fun p _ hp => sch_dig hu hv hp, by dsimp only; rw [Nat.add_zero, Nat.mul_zero, Nat.add_zero, Nat.pow_zero, Nat.mod_one, Nat.mul_zero, Nat.mul_zero, Nat.add_zero, ← hv]; exact Zha hu _ _ (by omega)⟩
    rintro ⟨j, c, zs⟩ hinv2 ih2;dsimp only at hinv2 ih2 ⊢;obtain ⟨hu2, hl2, hj, hc, hd, hv2⟩ := hinv2;refine go ?_;refine Znp rfl (fun h2 => ?_) (fun h2 => ?_)
    · skip
      have d2 := Zcj d1 (ZF b j);have d3 := ZF b j;have d4 := hu2.get (i + j);have d5 := hd (i + j) (by omega) (by omega);have d6 := ZF (a % B ^ i * b) (i + j)
      have es : dig a i * dig b j + dig (a % B ^ i * b) (i + j) + c = c + (dig a i * dig b j + dig (a % B ^ i * b) (i + j)) := by omega
      refine go ?_;refine zdr 21 mixC ?_;refine gd ?_;refine .op rfl (Zm rfl rfl rfl rfl (by omega) (by omega) (Zam (by omega)) (ZM rfl)) ?_;refine .op rfl (ZP rfl rfl rfl (Zaj (by omega))) ?_;refine .op rfl (Zo rfl rfl rfl (Zt (by omega))) ?_;refine gd ?_;refine .op rfl (Zm rfl rfl rfl rfl (by omega) (by omega) (Zam (by omega)) (ZM rfl)) ?_;refine .op rfl (ZP rfl rfl rfl (Zaj (by omega))) ?_;refine .op rfl (Zo rfl rfl rfl (Zt (by omega))) ?_;refine .op rfl (ZaC rfl rfl (Zdv (by omega))) ?_;refine gd ?_;refine .op rfl (Zf rfl rfl (Z1 (by omega))) ?_;refine .op rfl (ZS rfl rfl rfl rfl rfl (by omega) (by omega) (Zab rfl)) ?_;refine .op rfl (ZC rfl rfl rfl rfl ((ZdP (by omega)).trans (by rw [d5]))) ?_;refine .op rfl (Zo rfl rfl rfl (Zt (by omega))) ?_;refine .op rfl (Zf rfl rfl (Zaf (by omega))) ?_;refine zdm ?_;refine .op rfl (Zf rfl rfl (Zaf (by omega))) ?_;refine .nil (fun hG => ?_);refine zza ?_;rw [es];refine gn ?_;refine Za rfl (Zf rfl rfl (Z1 (by omega))) ?_;refine Zr ?_;refine Za rfl (Zo rfl rfl rfl ZX) ?_;refine Za rfl (ZS rfl rfl rfl rfl rfl (by omega) (by omega) (Zab rfl)) ?_;refine Zq rfl (Zad rfl rfl rfl rfl rfl rfl (by simp; omega) Zbi) ?_;refine gn ?_;refine Za rfl (Za5 rfl rfl (by omega) Zcn) ?_;refine gn ?_;refine Za rfl (Zf rfl rfl (Zi (by omega))) ?_;refine go ?_;refine ZnC (ih2 ((j + 1, (c + (dig a i * dig b j + dig (a % B ^ i * b) (i + j))) / 4294967296, zs.set (i + j) ((c + (dig a i * dig b j + dig (a % B ^ i * b) (i + j))) % 4294967296))) ?_ ?_) ?_ ?_
      · (obtain ⟨k1, k2, k3, k4⟩ := sch_step (b := b) hu2 hl2 (by omega) d1 hc d5 hv2; exact ⟨k1, k2, by dsimp only; omega, k3, fun p hp hp2 => by rw [ZbF (by omega)]; exact hd p (by omega) hp2, k4⟩)
      · (dsimp only; omega)
      · (repeat' first | exact Zag | apply Zah | apply Z4)
      rfl
    have hjn : j = (lim b).length := by omega
    subst hjn;refine ARun.exit rfl ?_;refine gn ?_;refine Za rfl (Zf rfl rfl (Z1 (by omega))) ?_;refine Zr ?_;refine Za rfl (Zo rfl rfl rfl (IntWalk.u32_in _ (by omega))) ?_;refine Za rfl (ZS rfl rfl rfl rfl rfl (by omega) (by omega) (Zab rfl)) ?_;refine Zq rfl (Zad rfl rfl rfl rfl rfl rfl (by simp; omega) Zbi) ?_;refine gn ?_;refine Za rfl (Zf rfl rfl (Zi (by omega))) ?_;refine go ?_;refine ARun.ag (ih ((i + 1, zs.set (i + (lim b).length) c)) ?_ ?_)
    · (obtain ⟨k1, k2, k3⟩ := sch_row hu2 hl2 (by omega) hc rfl hv2; exact ⟨k1, k2, by dsimp only; omega, k3⟩)
    (dsimp only; omega)
  have hin : i = (lim a).length := by omega
  subst hin;refine ARun.exit rfl ?_;refine zzs ?_; refine Zr ?_;refine Zq rfl (Zcm rfl rfl (.cons (.row rfl (ZT _)) .nil) (ZcH hu hl (by omega)) rfl) ?_;refine go ?_;refine Zno ?_;rw [List.take_of_length_le (by omega), Zci (Nat.le_refl _)] at hv;rw [hv]
  try rfl
theorem ZfW {z : Int} (h : fitZ z) : okI (decide (z < 0), lim z.natAbs) = true := by
  unfold okI;rw [ZaE h, Bool.true_and]
  by_cases h0 : z < 0
  · have := ZB.2 (show z.natAbs ≠ 0 by omega)
    rw [decide_eq_true (show 0 < (lim z.natAbs).length from this), Bool.or_true]
  rw [decide_eq_false h0]; rfl
theorem quo2_u32 {x : Nat} (h : x < 4294967296) : IntKind.u32.wrap ((x : Int).tdiv 2) = ((x / 2 : Nat) : Int) := by
  rw [Int.tdiv_eq_ediv_of_nonneg (by omega), IntKind.wrap_u32]; omega
theorem bl_half {x : Nat} (h : 0 < x) : bl x = 1 + bl (x / 2) := by
  by_cases h1 : x = 1
  · subst h1
    have h2 : bl 1 ≤ 1 := Zby.2 (by decide);have h3 : 0 < bl 1 := ZfO.2 (by decide);rw [show 1 / 2 = 0 from rfl, bl_zero]; omega
  have hs := Zeu (n := x) (k := 1) (by omega);rw [Nat.pow_one] at hs;exact hs
theorem ZhD (a : Nat) (ha : (lim a).length ≤ 1099511627776) : PC C 166 [numD a] (fun o => o = .ret (.int .i64 ((bl a : Nat) : Int))) := by
  refine Znr Tryz.func166 Tryz.ntmps166 Tryz.results166 ?_;refine zzs ?_; refine zza ?_; refine zzt ?_; refine Zr ?_
  first
    | refine Za rfl (ZdJ rfl rfl) ?_
    | refine Za rfl (Zbv rfl rfl rfl) ?_
    | refine Za rfl (q_lenNil rfl rfl) ?_
    | refine Za rfl (ZiR rfl rfl) ?_
  refine go ?_;refine ARun.cond rfl (fun h => ?_) (fun h => ?_)
  · skip
    have h : (lim a).length = 0 := by simpa using h
    refine go ?_;refine Zno ?_
    have h0 : a = 0 := by apply Classical.byContradiction; intro hn; have := ZB.2 hn; omega
    rw [h0, bl_zero]; try rfl
  have h : 0 < (lim a).length := by
    rcases Nat.eq_zero_or_pos (lim a).length with e | e
    · rw [e] at h; simp at h
    exact e
  have htop := Zjj h;have hd := ZF a ((lim a).length - 1)
  have hsub : IntKind.i64.wrap (((lim a).length : Int) - 1) = (((lim a).length - 1 : Nat) : Int) := by rw [IntWalk.i64_in _ (by omega)]; omega
  refine gn ?_;refine Za rfl (Zk (r := (((lim a).length - 1 : Nat) : Int)) rfl rfl hsub) ?_
  first
    | refine Za rfl (ZaC rfl rfl (ZaD (m := 32) (by omega))) ?_
    | refine Za rfl (ZaC rfl rfl (IntWalk.i64_in _ (by omega))) ?_
    | refine Za rfl (ZaC rfl rfl rfl) ?_
  refine gn ?_;refine Za rfl (Zk (r := (((lim a).length - 1 : Nat) : Int)) rfl rfl hsub) ?_;refine Za rfl (Zm (i := (((lim a).length - 1 : Nat) : Int)) rfl rfl rfl rfl (by omega) (by omega) (Zam (by omega)) (ZM rfl)) ?_;refine Za rfl (ZP rfl rfl rfl (Zaj (i := (lim a).length - 1) (by omega))) ?_;refine go ?_;refine Znw (S := Nat × Nat) (fun σ : Nat × Nat => [(18, .any), (19, .any), (20, .any), (21, .any), (22, .any), (23, .any), (4, .int .i64 (σ.1 : Int)), (5, .int .u32 (σ.2 : Int))]) (fun σ : Nat × Nat => []) (fun σ : Nat × Nat => σ.1 + bl σ.2 = bl a ∧ σ.2 < 4294967296) (fun σ : Nat × Nat => σ.2) ((32 * ((lim a).length - 1), dig a ((lim a).length - 1))) ?_ ?_
  · exact ⟨htop.symm, hd⟩
  rintro ⟨b, x⟩ hinv ih;dsimp only at hinv ih ⊢;obtain ⟨hb, hx⟩ := hinv;have hbl := Zbk a;clear hsub;refine go ?_;refine Znp rfl (fun h2 => ?_) (fun h2 => ?_)
  · skip
    have hx0 : 0 < x := by omega
    have hs := bl_half hx0;refine ARun.skip (ARun.seq (ARun.block (ARun.region ?_))); refine Zr ?_
    first
      | refine Za rfl (Zf rfl rfl (Zi (by omega))) ?_
      | refine Za rfl (Zf rfl rfl (Z1 (n := 1) (by omega))) ?_
      | refine Za rfl (Zf rfl rfl (IntWalk.i64_in _ (by omega))) ?_
      | refine Za rfl (Zf rfl rfl rfl) ?_
    refine gn ?_;refine Za rfl (ZaQ rfl rfl (by decide) (quo2_u32 hx)) ?_;refine go ?_;refine ARun.ag (ih ((b + 1, x / 2)) ?_ ?_)
    · exact ⟨by dsimp only; omega, by dsimp only; omega⟩
    exact Nat.div_lt_self hx0 (by decide)
  obtain rfl : x = 0 := by omega
  rw [bl_zero, Nat.add_zero] at hb;refine ARun.exit rfl ?_;refine go ?_;refine Zno ?_;rw [← hb]; try rfl
section
variable {C : Ctx} {env : List D} {H H' : Heap} {dst : Option Tmp} {ty : TypeId} {pos : String} {aft : Array Edge} {gd : Option (Nat × Bool)} {x y : Operand} {T e : TypeId} {descE : TypeDesc} {bytesE : Nat} {zeroE : Value}
theorem ZkL {k k' : IntKind} {n m : Nat} {dz : D} (ht : UN C T (.slice e)) (te : TIC C e descE 1 bytesE zeroE) (hz : ZbU zeroE = some dz) (hx : evO C env x = some (.int k n)) (hy : evO C env y = some (.int k' m)) (hnm : n ≤ m) (hb : bytesE * m ≤ 281474976710656) (hm : m ≤ maxLen) :
    OpH C ⟨dst, .makeSlice T x y, ty, pos, aft, gd⟩ env H (fun d H' => d = .row H.length n ∧ H' = H ++ [some ⟨Zdr dz n, e, 1, true, none⟩]) (fun _ _ => False) :=
  ZnV (ob := ⟨Zdr dz n, e, 1, true, none⟩) fun L0 w μ a hs he => by
    have ex := he _ _ hx;have ey := he _ _ hy;simp only [VR] at ex ey;obtain ⟨i, i1, i2, i3, i4⟩ := te.infos
    have hb' : (i.bytes : Int) * (m : Int) ≤ 281474976710656 := by
      rw [i3]
      have h : ((bytesE * m : Nat) : Int) ≤ 281474976710656 := by omega
      rwa [Int.natCast_mul] at h
    have hm' : (m : Int) ≤ 9223372036854775807 := by
      have h := hm;simp [maxLen] at h;omega
    have hr := run_make (P := C.P) w T e i zeroE ht i1 i4 k k' n m (by omega) (by omega) hb' hm';simp only [Int.toNat_natCast, i2, Nat.mul_one] at hr
    have hzc : zeroE.cells = #[zeroE] := by
      unfold ZbU at hz
      split at hz <;> first | rfl | (cases hz)
    have hone : zeroE.oneCell' = true := by
      unfold ZbU at hz
      split at hz <;> first | rfl | (cases hz)
    refine ⟨.slice (some ⟨w.heap.size, 0, none⟩) n m, madeCells zeroE.cells m, by simp [execOp, ex, ey, hr], by simp [Zdr, size_madeCells]; exact hnm, fun j d' hd' => ?_, fun _ hl => ?_⟩
    · simp only [Zdr, List.getElem?_replicate] at hd'
      split at hd'
      · rename_i hj
        injection hd' with hd'
        subst hd';refine ⟨zeroE, ?_, hone, Zfb hz⟩;simp [madeCells, hzc, Nat.lt_of_lt_of_le hj hnm, Nat.mod_one]
      cases hd'
    simp only [VR];refine ⟨some ⟨Zdr dz n, e, 1, true, none⟩, by simp, fun o' e' => ?_⟩
    injection e' with e'
    subst e';exact ⟨w.heap.size, m, _, hl, rfl, hnm, hm, heap_alloc_new w _, by simp [size_madeCells], by simp [Zdr]⟩
theorem ZkM {ik ik' : IntKind} {n c : Nat} {m m' : Int} {dz : D} {S b bE i : Nat} {zv zE : Value} {kE : TK} {zs : List D} [ap : AppL H (some ⟨zs, e, 1, true, none⟩) i H'] (hx : evO C env x = some (.int ik m)) (hy : evO C env y = some (.int ik' m')) (ht : C.ty T = some ⟨.slice e, S, b, zv⟩) (hee : C.ty e = some ⟨kE, 1, bE, zE⟩) (hz : ZbU zE = some dz) (hm : m = n) (hm' : m' = c) (hnc : n ≤ c) (hb : bE * c ≤ 281474976710656) (hM : c ≤ maxLen) (hzs : Zdr dz n = zs) :
    OpN C ⟨dst, .makeSlice T x y, ty, pos, aft, gd⟩ env H (.row i n) H' := by
  subst hm; subst hm'; subst hzs;have h := ZkL (C := C) (H := H) (dst := dst) (ty := ty) (pos := pos) (aft := aft) (gd := gd) (Zax ht) (ZU hee).1 hz hx hy hnc hb hM;unfold OpN;rw [← ap.len, ← ap.eq];exact h
end
theorem HC.of_live {C : Ctx} {f : FuncId} {args : List D} {n : Nat} {o : AObj} (h : HC C f [] args (fun x H' => ∃ k, x = .ret (.row k n) ∧ H'[k]? = some (some o))) (ho : o.live = true) (hsp : o.sp = none) (hp : D.pure.pures args = true) (hc : D.pure.pures o.cells = true) (H : Heap) :
    HC C f H args (fun x H' => x = .ret (.row H.length n) ∧ H' = H ++ [some o]) := by
  refine ⟨h.1, fun L0 w μ vs hs ha => ?_⟩
  have hf : ∀ b, forb (forb L0 μ H) [] [] b ↔ forb L0 μ H b := fun b => ⟨fun h => h.elim id (fun ⟨i, o, h1, _⟩ => by simp at h1), .inl⟩
  have s0 : SR C (forb L0 μ H) w [] [] := by
    refine ⟨rfl, fun i o b h => by simp at h, fun i j oi oj b h => by simp at h, fun i o b h => by simp at h, fun b hb => hs.forb_lt hb, fun g cs hg => ?_⟩;obtain ⟨h1, h2, h3⟩ := hs.glob g cs hg;exact ⟨h1, fun h => h2 ((hf g).1 h), GR.step (Step.shrink fun b hb => (hf b).1 hb) h1 h2 h3⟩
  have a0 : VRs w (forb (forb L0 μ H) [] []) [] [] args vs := VRs.step (Step.shrink fun b hb => (hf b).1 hb) (VRs.drop hp ha)
  refine (h.2 _ w [] vs s0 a0).mono fun e w' hfin => ?_
  obtain ⟨x, H1, μ1, ⟨k, rfl, hk⟩, s1, hO, e1⟩ := hfin
  have hun : ∀ b, b < w.heap.size → w'.heap[b]? = w.heap[b]? := fun b hb => e1.chg b hb (fun ⟨i, o, h1, _⟩ => by simp at h1)
  obtain ⟨v, rfl, hv⟩ := hO;simp only [VR] at hv;obtain ⟨x, hx, hxo⟩ := hv;rw [hk] at hx
  injection hx with hx
  subst hx;obtain ⟨b, cap, cur, hb, hv, hnc, hcm, hw, hsz, hcl⟩ := hxo _ rfl;have hlb : liveB μ1 H1 b := ⟨k, _, hk, ho, hb⟩
  have hbn : w.heap.size ≤ b := Nat.le_of_not_lt fun hlt => by
    obtain ⟨i, o, h1, _⟩ := e1.live b hlt hlb;simp at h1
  have hml : μ.length = H.length := hs.len
  have hcase : ∀ (i : Nat) (oi : AObj) (c : Nat), (H ++ [some o])[i]? = some (some oi) → (μ ++ [b])[i]? = some c → (i < H.length ∧ H[i]? = some (some oi) ∧ μ[i]? = some c) ∨ (i = H.length ∧ oi = o ∧ c = b) := by
    intro i oi c h1 h2
    rcases Nat.lt_trichotomy i H.length with h3 | h3 | h3
    · rw [List.getElem?_append_left h3] at h1
      rw [List.getElem?_append_left (by omega)] at h2;exact .inl ⟨h3, h1, h2⟩
    · subst h3
      simp at h1;rw [← hml] at h2;simp at h2;exact .inr ⟨rfl, h1.symm, h2.symm⟩
    rw [List.getElem?_eq_none (by simp; omega)] at h1; cases h1
  have hlive : ∀ c, liveB (μ ++ [b]) (H ++ [some o]) c → liveB μ H c ∨ c = b := by
    rintro c ⟨i, oi, h1, h2, h3⟩
    rcases hcase i oi c h1 h3 with ⟨_, k1, k2⟩ | ⟨_, _, k3⟩
    · exact .inl ⟨i, oi, k1, h2, k2⟩
    exact .inr k3
  have evo : Evo w w' μ (μ ++ [b]) H (H ++ [some o]) := by
    refine ⟨e1.os, e1.tape, e1.output, e1.size, fun b hb _ => hun b hb, fun c hc hl => ?_, fun i c hi => ?_, fun i x hx => ?_⟩
    · rcases hlive c hl with h | rfl
      · exact h
      omega
    · have := (List.getElem?_eq_some_iff.1 hi).1
      rw [List.getElem?_append_left this]; exact hi
    have := (List.getElem?_eq_some_iff.1 hx).1;refine ⟨x, by rw [List.getElem?_append_left this]; exact hx, fun o' e => ⟨o', e, rfl, rfl, rfl, fun b cur hb hw => ⟨cur, ?_, rfl⟩⟩⟩;rw [hun b (Array.getElem?_eq_some_iff.1 hw).1]; exact hw
  have st := evo.step L0
  have hsub : ∀ c, forb L0 (μ ++ [b]) (H ++ [some o]) c → forb (forb L0 μ H) μ1 H1 c := by
    rintro c (hc | hc)
    · exact .inl (.inl hc)
    rcases hlive c hc with h | rfl
    · exact .inl (.inr h)
    exact .inr hlb
  have sr : SR C L0 w' (μ ++ [b]) (H ++ [some o]) := by
    refine ⟨by simp [hml], fun i oi c h1 h2 => ?_, fun i j oi oj c h1 h2 h3 h4 hl => ?_, fun i oi c h1 h2 => ?_, fun c hc => Nat.lt_of_lt_of_le (hs.lim c hc) e1.size, fun g cs hg => ?_⟩
    · rcases hcase i oi c h1 h2 with ⟨_, k1, k2⟩ | ⟨_, rfl, rfl⟩
      · exact ((hs.obj i oi c k1 k2).same (hun c (hs.block_lt k1 k2))).step st
      exact ((s1.obj k _ _ hk hb).step (Step.sub hsub)).move hsp hc
    · rcases hcase i oi c h1 h3 with ⟨_, k1, k2⟩ | ⟨k0, _, k3⟩ <;> rcases hcase j oj c h2 h4 with ⟨_, m1, m2⟩ | ⟨m0, _, m3⟩
      · exact hs.inj i j oi oj c k1 m1 k2 m2 hl
      · have := hs.block_lt k1 k2; omega
      · have := hs.block_lt m1 m2; omega
      omega
    · rcases hcase i oi c h1 h2 with ⟨_, k1, k2⟩ | ⟨_, _, rfl⟩
      · exact hs.own i oi c k1 k2
      intro h; have := hs.lim _ h; omega
    obtain ⟨h1, h2, h3⟩ := hs.glob g cs hg;exact ⟨Nat.lt_of_lt_of_le h1 e1.size, st.keep g h1 h2, GR.step st.pure h1 h2 h3⟩
  refine ⟨.ret (.row H.length n), H ++ [some o], μ ++ [b], ⟨rfl, rfl⟩, sr, ⟨v, rfl, ?_⟩, evo⟩;simp only [VR];refine ⟨some o, by simp, fun o' e => ?_⟩
  injection e with e
  subst e;exact ⟨b, cap, cur, by rw [← hml]; simp, hv, hnc, hcm, hw, hsz, hcl⟩
theorem PC.of_live {C : Ctx} {f : FuncId} {args : List D} {n : Nat} {o : AObj} (h : HC C f [] args (fun x H' => ∃ k, x = .ret (.row k n) ∧ H'[k]? = some (some o))) (hp : D.pure.pures args = true) (hc : D.pure.pures o.cells = true) :
    PC C f args (fun x => x = .ret (.sl n o.cells)) := by
  refine Zn0 ⟨h.1, fun L0 w μ vs hs ha => (h.2 L0 w μ vs hs ha).mono fun e w' hfin => ?_⟩ hp;obtain ⟨x, H1, μ1, ⟨k, rfl, hk⟩, s1, ⟨v, rfl, hv⟩, e1⟩ := hfin;exact Fin.freeze (mk := .ret) (fun _ _ _ h => ⟨v, rfl, h⟩) s1 hv (.row hk hc) ⟨rfl, rfl⟩ e1
section
variable {C : Ctx} {Q : Post} {ops : Array Oper} {rest : List Oper} {k : List Item} {env env' : List D} {H H' : Heap} {df : List ADef}
variable {dst : Option Tmp} {op : Op} {ty : TypeId} {pos : String} {aft : Array Edge} {gd : Option (Nat × Bool)} {x y : Operand} {T e : TypeId} {tee : TE}
theorem n_live {f : FuncId} {caps ds ds' : List D} {ids : List Nat} {args : List Operand} {tys : Array TypeId} {n i : Nat} {o : AObj} {H1 : Heap} (hx : evO C env x = some (.clos f caps)) (ha : evOs C env args = some ds) (hz : FzL H (ds ++ caps) ds' ids) (hc : ∀ H, HC C f H ds' (fun x H' => x = .ret (.row H.length n) ∧ H' = H ++ [some o])) (hH : frz H ids = H1) [ap : AppL H1 (some o) i H'] :
    OpN C ⟨dst, .call ⟨.value x, args.toArray, tys⟩, ty, pos, aft, gd⟩ env H (.row i n) H' := by
  subst hH;exact OpH.mono (fun d' H' ⟨q1, q2⟩ => by injection q1 with q1; subst q1; subst q2; exact ⟨by rw [ap.len], ap.eq⟩) (fun _ _ ⟨q, _⟩ => by cases q) (ZhN hx ha hz (hc _))
theorem Zmd {J : Heap} {n S b : Nat} {zv : Value} {dz dx : D} {zs cs : List D} {E : Heap → List D} (hg : gOk ops.toList env gd = some true) (ht : C.ty T = some ⟨.slice e, S, b, zv⟩) (hee : C.ty e = some tee) (h1 : tee.size = 1) (hz : Zas tee.zero = some dz) (hzs : Z7 dz = some zs) (hzl : zs.length = 1)
    (hx : evO C env x = some (.row J.length n)) (hn : cs.length = n) (hy : evO C env y = some (.row (J ++ [some (AObj.mk cs e 1 true none)]).length 1)) (hH : H = (J ++ [some (AObj.mk cs e 1 true none)]) ++ [some (AObj.mk [dx] e 1 true none)]) (hb : (n + 1) * tee.bytes ≤ 140737488355328) (hm : n + 1 ≤ maxLen)
    [hp : ∀ J' : Heap, Put env dst (.row J'.length (n + 1)) (E J')] (hk : ∀ J' : Heap, AOps C Q ops rest k (E J') (J' ++ [some (AObj.mk (cs ++ [dx]) e 1 true none)]) df) :
    AOps C Q ops (⟨dst, .call ⟨.builtin .append, #[x, y], #[T, T]⟩, ty, pos, aft, gd⟩ :: rest) k env H df := by
  subst hH; subst hn
  have ho : ((J ++ [some (AObj.mk cs e 1 true none)]) ++ [some (AObj.mk [dx] e 1 true none)])[J.length]? = some (some (AObj.mk cs e 1 true none)) := by
    rw [List.getElem?_append_left (by simp), List.getElem?_append_right (Nat.le_refl _)]; simp
  have hs : srcD ((J ++ [some (AObj.mk cs e 1 true none)]) ++ [some (AObj.mk [dx] e 1 true none)]) (.row (J ++ [some (AObj.mk cs e 1 true none)]).length 1) = some (1, [dx]) := by
    simp only [srcD];rw [List.getElem?_append_right (Nat.le_refl _)]; simp
  have h := Zdn (m := 1) (news := [dx]) (C := C) (env := env) (dst := dst) (ty := ty) (pos := pos) (aft := aft) (gd := gd) (x := x) (y := y) (T := T) (e := e) (tee := tee) ht hee (by rw [h1]; decide) hz hzs (by rw [h1]; exact hzl) hx ho rfl rfl (by rw [h1]) hy hs (by rw [h1]; rfl) (by simpa using hb) (by simpa using hm) rfl;rw [h1] at h;exact ZnO hg h (fun d H' ⟨q1, q2⟩ => by subst q1; subst q2; rw [(hp _).eq]; exact hk _) (fun _ _ h => h.elim)
end
theorem shlA_step {a q r i c : Nat} {ys : List Nat} (hu : U32 ys) (hl : ys.length = q + i) (hr : r < 32) (hc : c < 2 ^ r) (hv : val ys + B ^ (q + i) * c = a % B ^ i * 2 ^ r * B ^ q) :
    U32 (ys ++ [(dig a i * 2 ^ r + c) % 4294967296]) ∧ (ys ++ [(dig a i * 2 ^ r + c) % 4294967296]).length = q + (i + 1) ∧ (dig a i * 2 ^ r + c) / 4294967296 < 2 ^ r ∧
      val (ys ++ [(dig a i * 2 ^ r + c) % 4294967296]) + B ^ (q + (i + 1)) * ((dig a i * 2 ^ r + c) / 4294967296) = a % B ^ (i + 1) * 2 ^ r * B ^ q := by
  have hsum : dig a i * 2 ^ r + c = c + dig a i * 2 ^ r := Nat.add_comm _ _;refine ⟨hu.snoc (Nat.mod_lt _ (by decide)), by simp [hl]; omega, by rw [hsum]; exact Zkm (ZF a i) hc, ?_⟩;rw [ZV, hl, Zat, ← Nat.add_assoc q i 1, Nat.pow_succ, Nat.mul_assoc];generalize hs : dig a i * 2 ^ r + c = s
  have h1 : B ^ (q + i) * (s % 4294967296) + B ^ (q + i) * (B * (s / 4294967296)) = B ^ (q + i) * s := by
    rw [← Nat.mul_add]; congr 1; exact Nat.mod_add_div s B
  have h2 : B ^ (q + i) * s = B ^ (q + i) * (dig a i * 2 ^ r) + B ^ (q + i) * c := by rw [← hs, Nat.mul_add]
  have h3 : (a % B ^ i + B ^ i * dig a i) * 2 ^ r * B ^ q = a % B ^ i * 2 ^ r * B ^ q + B ^ (q + i) * (dig a i * 2 ^ r) := by
    rw [Nat.add_mul, Nat.add_mul, Nat.pow_add]
    congr 1
    rw [Nat.mul_comm (B ^ q) (B ^ i), Nat.mul_assoc (B ^ i), Nat.mul_assoc (B ^ i), Nat.mul_assoc (B ^ i)]
    congr 1
    exact Nat.mul_comm _ _
  simp only [val, Nat.mul_zero, Nat.add_zero];rw [h3];omega
theorem shlA_end {a q r c : Nat} {ys : List Nat} (hu : U32 ys) (hl : ys.length = q + (lim a).length) (hc : c < 2 ^ r) (hr : r < 32) (hv : val ys + B ^ (q + (lim a).length) * c = a % B ^ (lim a).length * 2 ^ r * B ^ q) :
    U32 (ys ++ [c % 4294967296]) ∧ val (ys ++ [c % 4294967296]) = a * 2 ^ (32 * q + r) := by
  have h1 : 2 ^ r ≤ 2 ^ 31 := Nat.pow_le_pow_right (by decide) (by omega);have h2 : c % 4294967296 = c := Nat.mod_eq_of_lt (by have : (2 : Nat) ^ 31 = 2147483648 := rfl; omega);refine ⟨hu.snoc (Nat.mod_lt _ (by decide)), ?_⟩;rw [ZV, hl, h2];simp only [val, Nat.mul_zero, Nat.add_zero];rw [hv, Zci (Nat.le_refl _), Nat.pow_add, ← ZdH, Nat.mul_assoc, Nat.mul_comm (2 ^ r)]
theorem shrA_step {a n i : Nat} {ys : List Nat} (hu : U32 ys) (hl : ys.length = i) (hv : val ys = a / 2 ^ n % B ^ i) :
    U32 (ys ++ [dig (a / 2 ^ n) i]) ∧ (ys ++ [dig (a / 2 ^ n) i]).length = i + 1 ∧ val (ys ++ [dig (a / 2 ^ n) i]) = a / 2 ^ n % B ^ (i + 1) := by
  refine ⟨hu.snoc (ZF _ _), by simp [hl], ?_⟩;rw [ZV, hl, Zat, hv];simp [val]
theorem shrA_dig (a n i : Nat) : (dig a (n / 32 + i + 1) * 2 ^ 32 + dig a (n / 32 + i)) / 2 ^ (n % 32) % 4294967296 = dig (a / 2 ^ n) i := by
  have h := Zkn (m := a / B ^ (n / 32)) (r := n % 32) (i := i) (Nat.mod_lt _ (by decide));rw [← ZiF, ← ZiF, ← ZeQ] at h;rw [← h, Nat.add_comm (dig a (n / 32 + i + 1) * 2 ^ 32), show n / 32 + i = i + n / 32 by omega, show i + n / 32 + 1 = i + 1 + n / 32 by omega]
theorem dv_back {d W h c P v y : Nat} (h1 : v + h * d = W + P * 1) (hv : v < P) (h2 : y + P * c = v + d) (hc : c ≤ 1) (hd0 : 0 < d) : 1 ≤ h ∧ W / d ≤ h - 1 ∧ y + (h - 1) * d = W + P * (1 - c) := by
  have h3 : W < h * d := by omega
  have h4 : W / d < h := (Nat.div_lt_iff_lt_mul hd0).2 h3;obtain ⟨g, rfl⟩ : ∃ g, h = g + 1 := ⟨h - 1, by have := Nat.lt_of_le_of_lt (Nat.zero_le _) h4; omega⟩;rw [Nat.add_mul, Nat.one_mul] at h1;refine ⟨by omega, by rw [Nat.add_sub_cancel]; exact Nat.le_of_lt_succ h4, ?_⟩;rw [Nat.add_sub_cancel];clear h4
  have hc2 : c = 0 ∨ c = 1 := by omega
  rcases hc2 with rfl | rfl
  · rw [Nat.mul_zero] at h2; rw [Nat.sub_zero]; omega
  rw [Nat.mul_one] at h2; rw [Nat.sub_self, Nat.mul_zero]; omega
end Go.V
