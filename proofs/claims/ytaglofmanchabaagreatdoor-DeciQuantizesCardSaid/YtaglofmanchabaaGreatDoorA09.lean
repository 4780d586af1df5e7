/- Rules for steps and contracts of functions, each proved; no condition. -/
import Derived.Test.YtaglofmanchabaaGreatDoorA08
set_option linter.unusedVariables false
set_option linter.unusedSimpArgs false
set_option linter.unnecessarySimpa false
set_option synthInstance.maxHeartbeats 2000000
set_option synthInstance.maxSize 100000
namespace Go.V
open Go.RowKit
def upd (S : Nat → Bool) (i : Nat) : Nat → Bool := fun j => bif Nat.beq j i then true else S j
theorem Zdx (S : Nat → Bool) (i : Nat) : upd S i i = true := by unfold upd; rw [Nat.beq_refl]; rfl
theorem Zde (S : Nat → Bool) {i j : Nat} (h : j ≠ i) : upd S i j = S j := by
  unfold upd
  have : Nat.beq j i = false := by
    cases hb : Nat.beq j i with
    | false => rfl
    | true => exact (h (Nat.eq_of_beq_eq_true hb)).elim
  rw [this]; rfl
theorem draw_all {l : List Oper} {m : Nat} (ok : OkD l m) (hm : m ≤ l.length) (P : (Nat → Bool) → List Nat → Prop)
    (hfull : P (fun j => decide (j < m)) (List.range' m (l.length - m)))
    (hstep : ∀ (S : Nat → Bool) (i : Nat) (rest : List Nat), i < m → S i = false → (∀ j, S j = true → j < m) → (∀ j, hasE l i j = true → S j = true) → (∀ j, S j = true → ∀ i', hasE l j i' = true → S i' = true) → P (upd S i) rest → P S (i :: rest)) :
    ∀ (fuel t : Nat) (listed : Array Bool), listed.size = l.length → listed.toList.count false = fuel → (∀ j, lst listed j = true → j < m ∧ ∀ i, hasE l j i = true → lst listed i = true) →
      P (lst listed) (Region.linearise.go .any l.toArray fuel t listed []) := by
  have full : ∀ (fuel t : Nat) (listed : Array Bool), listed.size = l.length → listed.toList.count false = fuel → (∀ j, lst listed j = true → j < m ∧ ∀ i, hasE l j i = true → lst listed i = true) → (∀ j, j < m → lst listed j = true) →
      P (lst listed) (Region.linearise.go .any l.toArray fuel t listed []) := by
    intro fuel t listed hsz hcnt hin hall
    have hlst : lst listed = fun j => decide (j < m) := by
      funext j
      cases h : lst listed j with
      | true => simp [(hin j h).1]
      | false =>
        cases h2 : decide (j < m) with
        | false => rfl
        | true => rw [hall j (by simpa using h2)] at h; cases h
    have hget : ∀ j, j < l.length → listed[j]? = some (decide (j < m)) := by
      intro j hj;have := congrFun hlst j;simp only [lst, Array.getD_eq_getD_getElem?] at this
      have hx : listed[j]? = some (listed[j]'(by omega)) := by simp [hsz, hj]
      rw [hx] at this ⊢
      simpa using this
    have hlist : listed.toList = List.replicate m true ++ List.replicate (l.length - m) false := by
      apply List.ext_getElem?;intro j;rw [List.getElem?_append, List.getElem?_replicate, List.getElem?_replicate, Array.getElem?_toList];simp only [List.length_replicate]
      by_cases h : j < m
      · rw [hget j (by omega)]; simp [h]
      by_cases h2 : j < l.length
      · rw [hget j h2]; simp [h]; omega
      rw [Array.getElem?_eq_none (by omega)]; simp [h]; omega
    have hfuel : l.length - m ≤ fuel := by
      rw [hlist] at hcnt;simp [List.count_append, List.count_replicate] at hcnt;omega
    rw [go_suf ok fuel m t listed hsz hget (Nat.le_refl _) hfuel, hlst];exact hfull
  intro fuel
  induction fuel with
  | zero =>
    intro t listed hsz hcnt hin
    refine full 0 t listed hsz hcnt hin fun j hj => ?_
    have : false ∉ listed.toList := List.count_eq_zero.1 hcnt;unfold lst
    have hx : listed[j]? = some (listed[j]'(by omega)) := by simp
    rw [Array.getD_eq_getD_getElem?, hx]
    cases hb : listed[j]'(by omega) with
    | true => rfl
    | false => exact (this (by rw [← hb]; simp)).elim
  | succ fuel ih =>
    intro t listed hsz hcnt hin
    by_cases hall : ∀ j, j < m → lst listed j = true
    · exact full (fuel + 1) t listed hsz hcnt hin hall
    obtain ⟨p, hp1, hp2, hp3⟩ : ∃ j, j < m ∧ lst listed j = false ∧ ∀ i, i < j → lst listed i = true := by
      apply least;apply Classical.byContradiction;intro hn;apply hall;intro j hj
      cases h : lst listed j with
      | true => rfl
      | false => exact (hn ⟨j, hj, h⟩).elim
    have getOf : ∀ (d : Bool) (j : Nat), j < l.length → listed.getD j d = lst listed j := by
      intro d j hj
      have hx : listed[j]? = some (listed[j]'(by omega)) := by simp [hsz, hj]
      simp [lst, Array.getD_eq_getD_getElem?, hx]
    let rs := (List.range l.toArray.size).filter fun i => !listed.getD i true && ((l.toArray[i]?).map (·.after.all fun e => !Region.binds .any e || listed.getD e.on false)).getD false
    have hpr : p ∈ rs := by
      obtain ⟨o, ho⟩ : ∃ o, l[p]? = some o := ⟨l[p]'(by omega), by simp⟩
      have ho' : l.toArray[p]? = some o := by simpa using ho
      refine List.mem_filter.2 ⟨by simp; omega, ?_⟩;simp only [getOf true p (by omega), hp2, Bool.not_false, Bool.true_and, ho', Option.map_some, Option.getD_some];apply Array.all_eq_true'.2;intro e' he'
      cases hb : Region.binds .any e' with
      | false => rfl
      | true => simpa [lst] using hp3 e'.on (ok.back p o ho e' he' hb)
    have hlt : t % rs.length < rs.length := Nat.mod_lt _ (List.length_pos_of_mem hpr)
    have hgo : Region.linearise.go .any l.toArray (fuel + 1) t listed [] = rs[t % rs.length] :: Region.linearise.go .any l.toArray fuel (t / rs.length) (listed.setIfInBounds rs[t % rs.length] true) [] := by
      simp only [Region.linearise.go]
      have hx : rs[t % rs.length]? = some rs[t % rs.length] := by simp [hlt]
      change (match rs[t % rs.length]? with
        | some i => Region.linearise.go .any l.toArray fuel (t / rs.length) (listed.setIfInBounds i true) [i]
        | none => [].reverse) = _
      rw [hx];simp only;rw [linearise_go_acc, List.reverse_singleton, List.singleton_append]
    rw [hgo];generalize hi : rs[t % rs.length] = i
    have himem : i ∈ rs := by rw [← hi]; exact List.getElem_mem hlt
    obtain ⟨hir, hready⟩ := List.mem_filter.1 himem
    have hin' : i < l.length := by simpa using hir
    obtain ⟨o, ho⟩ : ∃ o, l[i]? = some o := ⟨l[i], by simp [hin']⟩
    have ho' : l.toArray[i]? = some o := by simpa using ho
    simp only [getOf true i hin', ho', Option.map_some, Option.getD_some, Bool.and_eq_true, Bool.not_eq_true'] at hready;obtain ⟨hnl, hdep⟩ := hready
    have him : i < m := by
      rcases Nat.lt_or_ge i m with h | h
      · exact h
      exfalso
      have := Zfe (fun k hk j hj => (hin k hk).2 j hj) ho 5 (ok.suf i h hin' p (by omega)) hdep;rw [hp2] at this;cases this
    have hnew : lst (listed.setIfInBounds i true) = upd (lst listed) i := by
      funext j
      by_cases e : j = i
      · subst e
        rw [Zdx];unfold lst;rw [Array.getD_eq_getD_getElem?, Array.getElem?_setIfInBounds];simp [hsz, hin']
      rw [Zde _ e];unfold lst;rw [Array.getD_eq_getD_getElem?, Array.getD_eq_getD_getElem?, Array.getElem?_setIfInBounds]
      have : ¬ i = j := fun h => e h.symm
      simp [this]
    have hcnt' : (listed.setIfInBounds i true).toList.count false = fuel := by
      have hx : listed.toList[i]? = some false := by
        have := getOf true i hin';rw [hnl, Array.getD_eq_getD_getElem?] at this
        have hy : listed[i]? = some (listed[i]'(by omega)) := by simp
        rw [hy] at this;simp only [Option.getD_some] at this;rw [Array.getElem?_toList, hy, this]
      rw [Array.toList_setIfInBounds, List.count_set (by simp; omega)];have : listed.toList[i]'(by simp; omega) = false := (List.getElem?_eq_some_iff.1 hx).2;rw [this];simp [hcnt]
    refine hstep (lst listed) i _ him hnl (fun j hj => (hin j hj).1) (fun j hj => Zb6 ho hj hdep) (fun j hj => (hin j hj).2) ?_;rw [← hnew]
    refine ih _ _ (by simp [hsz]) hcnt' fun j hj => ?_
    rw [hnew] at hj
    by_cases e : j = i
    · subst e
      refine ⟨him, fun i' hi' => ?_⟩;rw [hnew]
      by_cases e2 : i' = j
      · rw [e2]; exact Zdx _ _
      rw [Zde _ e2]; exact Zb6 ho hi' hdep
    rw [Zde _ e] at hj;obtain ⟨a1, a2⟩ := hin j hj;refine ⟨a1, fun i' hi' => ?_⟩;rw [hnew]
    by_cases e2 : i' = i
    · rw [e2]; exact Zdx _ _
    rw [Zde _ e2]; exact a2 i' hi'
def LP (L0 : Nat → Prop) (β : Nat → Nat) (pe : Nat → Bool) : Nat → Prop := fun b => L0 b ∨ ∃ j, pe j = true ∧ β j = b
abbrev Alc := Tmp × TypeId × List D
structure AS (C : Ctx) (Q : Post) (ops : Array Oper) (k : List Item) (env : List D) (H : Heap) (df : List ADef) (al : Nat → Option Alc) (pe : Nat → Bool) (order : List Nat) : Prop where
  mk :: (out : ∀ (L0 : Nat → Prop) (w0 : World) (μ0 : List Nat) (H0 : Heap) (w : World) (μ : List Nat) (a : Act) (β : Nat → Nat),
    (∀ i j, pe i = true → pe j = true → β i = β j → i = j) →
    (∀ j, pe j = true → ¬ L0 (β j) ∧ w0.heap.size ≤ β j ∧ ∀ (i : Nat) (o : AObj), H[i]? = some (some o) → μ[i]? ≠ some (β j)) →
    (∀ j t T cs, pe j = true → al j = some (t, T, cs) → a.tmps.toList[t]? = some (.pointer (some ⟨β j, 0, none⟩)) ∧ ∃ cur : Array Value, w.heap[β j]? = some (.cells cur T (0, 0)) ∧ cs.length ≤ cur.size ∧
      ∀ (i : Nat) (d : D), cs[i]? = some d → ∃ v : Value, cur[i]? = some v ∧ v.oneCell' = true ∧ VR w (forb (LP L0 β pe) μ H) μ H d v) →
    SR C (LP L0 β pe) w μ H → VRs w (forb (LP L0 β pe) μ H) μ H env a.tmps.toList → DfR w (forb (LP L0 β pe) μ H) μ H df a.defers → Evo w0 w μ0 μ H0 H → ∀ (b : Frame) (cs : List Frame), RdOk μ b Q.rd →
    ∃ e a' w', QRel C L0 w0 μ0 H0 Q e a' w' ∧ ArrR C.P (lone (b.atR a (.inRegion ops order :: k)) cs w) b cs e a' w')
theorem Step.sub {w : World} {L L' : Nat → Prop} {μ : List Nat} {H : Heap} (h : ∀ b, L' b → L b) : Step w w L L' μ μ H H :=
  ⟨Nat.le_refl _, fun _ _ _ => rfl, fun b _ hb hb' => hb (h b hb'), fun _ _ h => h, HStep.refl _ _ _⟩
theorem ZeS {L L' : Nat → Prop} {μ : List Nat} {H : Heap} (h : ∀ b, L' b → L b) : ∀ b, forb L' μ H b → forb L μ H b := fun b hb => hb.imp (h b) id
theorem SR.shrink {C : Ctx} {L L' : Nat → Prop} {w : World} {μ : List Nat} {H : Heap} (hs : SR C L w μ H) (h : ∀ b, L' b → L b) : SR C L' w μ H := by
  have st : Step w w (forb L μ H) (forb L' μ H) μ μ H H := Step.sub (ZeS h);refine ⟨hs.len, fun i o b h1 h2 => ((hs.obj i o b h1 h2)).step st, hs.inj, fun i o b h1 h2 hL => hs.own i o b h1 h2 (h b hL), fun b hb => hs.lim b (h b hb), fun g cs hg => ?_⟩;obtain ⟨h1, h2, h3⟩ := hs.glob g cs hg;exact ⟨h1, fun hf => h2 (ZeS h _ hf), GR.step st.pure h1 h2 h3⟩
section
variable {C : Ctx} {Q : Post} {ops : Array Oper} {k : List Item} {env : List D} {H : Heap} {df : List ADef} {al : Nat → Option Alc} {pe : Nat → Bool} {i : Nat} {rest : List Nat} {o : Oper}
theorem ZhX {a : Act} {dst : Option Tmp} {v u : Value} {t : Tmp} (h : dst ≠ some t) (hu : a.tmps.toList[t]? = some u) : (a.put dst v).tmps.toList[t]? = some u := by
  cases dst with
  | none => exact hu
  | some t' =>
    have hne : t' ≠ t := fun e => h (by rw [e])
    simp only [Act.put, Array.toList_setIfInBounds];rw [List.getElem?_set_ne hne]; exact hu
theorem AS.op {K KP : D → Heap → Prop} (ho : ops[i]? = some o) (hg : gOk ops.toList env o.guard = some true) (h : OpH C o env H K KP) (hdst : ∀ j t T cs, pe j = true → al j = some (t, T, cs) → o.dst ≠ some t)
    (hk : ∀ d H', K d H' → AS C Q ops k (Zu env o.dst d) H' df al pe rest) (hp : ∀ d H', KP d H' → Q (.pan d) env H' df) : AS C Q ops k env H df al pe (i :: rest) := by
  refine ⟨fun L0 w0 μ0 H0 w μ a β hβ hf hpd hs hv hd he b cs hrd => ?_⟩;have hw := Zet (C := C) hv hg;have h1 := h.out (LP L0 β pe) w μ a hs hv
  rcases Zdj (rest := rest) ho hw h1 (by rintro ⟨a0, w1, v, d, H', μ', h2, _⟩; cases h2) b (.inr fun dd w' ⟨v, d, H', μ', _, h2, _⟩ => Zdq h2) k cs with
    ⟨a', w', ⟨v, d, H', μ', hK, rfl, hs', hd', he'⟩, hst⟩ | ⟨chain, w', todo, ⟨v, d, H', μ', hch, _, hK, hs', hd', he'⟩, hst⟩
  · have hst' := he'.step (LP L0 β pe)
    have hbk : ∀ j, pe j = true → w'.heap[β j]? = w.heap[β j]? := fun j hj => he'.chg _ (hs.lim _ (.inr ⟨j, hj, rfl⟩)) (fun ⟨i', o', q1, _, q3⟩ => (hf j hj).2.2 i' o' q1 q3)
    obtain ⟨e, a', w'', h3, h4⟩ := (hk d H' hK).out L0 w0 μ0 H0 w' μ' (a.put o.dst v) β hβ (fun j hj => ⟨(hf j hj).1, (hf j hj).2.1, fun i' o' q1 q3 => hs'.own i' o' _ q1 q3 (.inr ⟨j, hj, rfl⟩)⟩)
      (fun j t T cs2 hj hal => by
        obtain ⟨p1, cur, p2, p3, p4⟩ := hpd j t T cs2 hj hal
        exact ⟨ZhX (hdst j t T cs2 hj hal) p1, cur, by rw [hbk j hj]; exact p2, p3, fun i2 d2 hd2 => by
          obtain ⟨v2, m1, m2, m3⟩ := p4 i2 d2 hd2
          exact ⟨v2, m1, m2, VR.step hst' m3⟩⟩)
      hs' (ZbL (VRs.step hst' hv) hd') (by rw [ZaB]; exact DfR.step hst' hd) (he.trans he') b cs (hrd.step he'.map)
    exact ⟨e, a', w'', h3, .of_steps hst h4⟩
  have hst' := he'.step (LP L0 β pe)
  injection hch with hch
  subst hch
  have hsub : ∀ b, L0 b → LP L0 β pe b := fun b hb => .inl hb
  have sst : Step w' w' (forb (LP L0 β pe) μ' H') (forb L0 μ' H') μ' μ' H' H' := Step.sub (ZeS hsub);exact ⟨.panic (pan1 v), a, w', ⟨.pan d, env, H', μ', df, hp d H' hK, hs'.shrink hsub, VRs.step sst (VRs.step hst' hv), DfR.step sst (DfR.step hst' hd), ⟨v, rfl, VR.step sst hd'⟩, he.trans he'⟩, todo, hst⟩
theorem AS.skip (ho : ops[i]? = some o) (hg : gOk ops.toList env o.guard = some false) (hdst : ∀ j t T cs, pe j = true → al j = some (t, T, cs) → o.dst ≠ some t)
    (hk : AS C Q ops k (Zu env o.dst (.tup [])) H df al pe rest) : AS C Q ops k env H df al pe (i :: rest) := by
  refine ⟨fun L0 w0 μ0 H0 w μ a β hβ hf hpd hs hv hd he b cs hrd => ?_⟩;have hw := Zet (C := C) hv hg;have hst := stepR_op_skip (P := C.P) (b := b) (a := a) (k := k) (cs := cs) (w := w) (ops := ops) (i := i) (rest := rest) (by simp [ho, hw]);simp only [ho, Option.bind_some] at hst
  obtain ⟨e, a', w'', h3, h4⟩ := hk.out L0 w0 μ0 H0 w μ (a.put o.dst undef) β hβ hf (fun j t T cs2 hj hal => by
      obtain ⟨p1, p2⟩ := hpd j t T cs2 hj hal
      exact ⟨ZhX (hdst j t T cs2 hj hal) p1, p2⟩) hs (ZbL hv (by simp only [VR]; exact ⟨[], rfl, by simp [VRs]⟩)) (by rw [ZaB]; exact hd) he b cs hrd
  exact ⟨e, a', w'', h3, .of_steps (.one hst) h4⟩
theorem AS.alloc {t : Tmp} {T : TypeId} {te : TE} {dz : D} {ds : List D} {ty : TypeId} {pos : String} {aft : Array Edge} (ho : ops[i]? = some ⟨some t, .alloc T, ty, pos, aft, none⟩) (ht : C.ty T = some te) (hz : Zas te.zero = some dz) (hd : Z7 dz = some ds) (hok : ds.all (Zai []) = true)
    (hpe : pe i = false) (hali : al i = some (t, T, ds)) (hdst : ∀ j t' T cs, pe j = true → al j = some (t', T, cs) → t ≠ t') (htl : t < env.length)
    (hk : AS C Q ops k (Zu env (some t) .any) H df al (upd pe i) rest) : AS C Q ops k env H df al pe (i :: rest) := by
  refine ⟨fun L0 w0 μ0 H0 w μ a β hβ hf hpd hs hv hdf he b cs hrd => ?_⟩;have ti := (ZU ht).1
  have hrun : (execOp a.eval ⟨some t, .alloc T, ty, pos, aft, none⟩).run C.P w = .ok (.value (.pointer (some ⟨w.heap.size, 0, none⟩))) (w.alloc (.cells te.zero.cells T)) := by
    simp [execOp, Instr.alloc, ti.run_zero, newVar, newRow]
  let w' := w.alloc (.cells te.zero.cells T)
  let β' : Nat → Nat := fun j => if j = i then w.heap.size else β j
  have hwp : Oper.wp C.P ⟨some t, .alloc T, ty, pos, aft, none⟩ a w (fun a' w1 => a' = a.put (some t) (.pointer (some ⟨w.heap.size, 0, none⟩)) ∧ w1 = w') (fun _ _ _ => False) := by
    unfold Oper.wp;rw [hrun];exact ⟨rfl, rfl⟩
  have hw : Region.wanted ⟨some t, .alloc T, ty, pos, aft, none⟩ (yielded ops a.tmps) = true := by simp [Region.wanted]
  rcases Zdj (rest := rest) ho hw hwp (by rintro ⟨_, _, h⟩; exact h) b (.inr fun dd w1 ⟨h1, _⟩ => Zdq h1) k cs with ⟨a', w1, ⟨h1, h2⟩, hst⟩ | ⟨_, _, _, h, _⟩
  · subst h2
    subst h1;obtain ⟨sK, eK⟩ := hs.allocK (.cells te.zero.cells T)
    have hpi : ∀ j, upd pe i j = true → j = i ∨ (j ≠ i ∧ pe j = true) := fun j hj => by
      by_cases e : j = i
      · exact .inl e
      rw [Zde _ e] at hj; exact .inr ⟨e, hj⟩
    have hβi : β' i = w.heap.size := by simp [β']
    have hβn : ∀ j, j ≠ i → β' j = β j := fun j h => by simp [β', h]
    have hlt : ∀ j, pe j = true → β j < w.heap.size := fun j hj => hs.lim _ (.inr ⟨j, hj, rfl⟩)
    have hLP : ∀ b', LP L0 β' (upd pe i) b' → LP L0 β pe b' ∨ b' = w.heap.size := by
      rintro b' (h | ⟨j, hj, rfl⟩)
      · exact .inl (.inl h)
      rcases hpi j hj with rfl | ⟨hne, hj'⟩
      · right; exact hβi
      left; rw [hβn j hne]; exact .inr ⟨j, hj', rfl⟩
    have hforb : ∀ b', b' < w.heap.size → ¬ forb (LP L0 β pe) μ H b' → ¬ forb (LP L0 β' (upd pe i)) μ H b' := by
      rintro b' hb' hn (h | h)
      · rcases hLP b' h with h | h
        · exact hn (.inl h)
        omega
      exact hn (.inr h)
    have st : Step w w' (forb (LP L0 β pe) μ H) (forb (LP L0 β' (upd pe i)) μ H) μ μ H H :=
      ⟨eK.size, fun b' hb' hn => eK.chg b' hb' (fun hl => hn (.inr hl)), hforb, fun _ _ h => h, eK.heap⟩
    have hs2 : SR C (LP L0 β' (upd pe i)) w' μ H := by
      refine ⟨hs.len, fun i' o' b' q1 q2 => ?_, hs.inj, fun i' o' b' q1 q2 hL => ?_, fun b' hb' => ?_, fun g cs2 hg => ?_⟩
      · exact ((hs.obj i' o' b' q1 q2).same (Below.heap_alloc w _ b' (hs.block_lt q1 q2))).step st
      · rcases hLP b' hL with h | h
        · exact hs.own i' o' b' q1 q2 h
        have := hs.block_lt q1 q2; omega
      · have hsz : w'.heap.size = w.heap.size + 1 := by simp [w']
        rcases hLP b' hb' with h | h
        · have := hs.lim b' h; omega
        omega
      obtain ⟨g1, g2, g3⟩ := hs.glob g cs2 hg;exact ⟨Nat.lt_of_lt_of_le g1 eK.size, hforb g g1 g2, GR.step st.pure g1 g2 g3⟩
    have hnew : w'.heap[w.heap.size]? = some (.cells te.zero.cells T (0, 0)) := heap_alloc_new w _;obtain ⟨c1, c2⟩ := Zbb (w := w) (L := fun _ => True) (μ := []) (H := []) hd hok (ZaZ hz)
    obtain ⟨e, a', w'', h3, h4⟩ := hk.out L0 w0 μ0 H0 w' μ (a.put (some t) (.pointer (some ⟨w.heap.size, 0, none⟩))) β' (fun i1 j1 q1 q2 q3 => by
        rcases hpi i1 q1 with rfl | ⟨n1, p1⟩ <;> rcases hpi j1 q2 with rfl | ⟨n2, p2⟩
        · rfl
        · rw [hβi, hβn j1 n2] at q3; have := hlt j1 p2; omega
        · rw [hβi, hβn i1 n1] at q3; have := hlt i1 p1; omega
        rw [hβn i1 n1, hβn j1 n2] at q3; exact hβ i1 j1 p1 p2 q3)
      (fun j hj => by
        rcases hpi j hj with rfl | ⟨n1, p1⟩
        · rw [hβi]
          refine ⟨fun hL => ?_, he.size, fun i' o' q1 q2 => ?_⟩
          · have := hs.lim _ (.inl hL : LP L0 β pe _); omega
          have := hs.block_lt q1 q2; omega
        rw [hβn j n1]; exact hf j p1)
      (fun j t2 T2 cs2 hj hal => by
        rcases hpi j hj with rfl | ⟨n1, p1⟩
        · rw [hali] at hal
          injection hal with hal
          injection hal with e1 e2
          injection e2 with e2 e3
          subst e1; subst e2; subst e3;rw [hβi];refine ⟨?_, te.zero.cells, hnew, ?_, fun i2 d2 hd2 => ?_⟩
          · have hl : t < a.tmps.toList.length := by rw [ZJ hv]; exact htl
            simp only [Act.put, Array.toList_setIfInBounds];rw [List.getElem?_set];simp at hl;simp [hl]
          · have := ZJ c1; simp at this; omega
          obtain ⟨v, m1, m2⟩ := Z2 c1 hd2;obtain ⟨c3, _⟩ := Zbb (w := w') (L := forb (LP L0 β' (upd pe j)) μ H) (μ := []) (H := []) hd hok (ZaZ hz);obtain ⟨v2, n1, n2⟩ := Z2 c3 hd2;rw [m1] at n1
          injection n1 with n1
          subst n1;exact ⟨v, by simpa using m1, c2 v (List.mem_of_getElem? m1), VR.lift n2⟩
        obtain ⟨p2, cur, p3, p4, p5⟩ := hpd j t2 T2 cs2 p1 hal;rw [hβn j n1]
        refine ⟨ZhX (fun h => hdst j t2 T2 cs2 p1 hal (by injection h)) p2, cur, ?_, p4, fun i2 d2 hd2 => by
          obtain ⟨v2, m1, m2, m3⟩ := p5 i2 d2 hd2
          exact ⟨v2, m1, m2, VR.step st m3⟩⟩
        rw [show w'.heap[β j]? = w.heap[β j]? from Below.heap_alloc w _ _ (hlt j p1)]; exact p3)
      hs2 (ZbL (VRs.step st hv) (by simp only [VR])) (by rw [ZaB]; exact DfR.step st hdf) (he.trans eK) b cs hrd
    exact ⟨e, a', w'', h3, .of_steps hst h4⟩
  exact h.elim
theorem AS.stp {j : Nat} {t : Tmp} {T : TypeId} {te : TE} {ds ds' : List D} {d : D} {y : Operand} {ty : TypeId} {pos : String} {aft : Array Edge} (ho : ops[i]? = some ⟨none, .store T (.tmp t) y, ty, pos, aft, none⟩) (ht : C.ty T = some te) (hpe : pe j = true) (hal : al j = some (t, T, ds)) (hy : evO C env y = some d) (hc : Z7 d = some ds') (hn : ds'.length = te.size) (hle : te.size ≤ ds.length) (hok : ds'.all (Zai []) = true) (hpu : D.pure.pures ds' = true)
    (hk : AS C Q ops k env H df (fun i => bif Nat.beq i j then some (t, T, ds') else al i) pe rest) : AS C Q ops k env H df al pe (i :: rest) := by
  refine ⟨fun L0 w0 μ0 H0 w μ a β hβ hf hpd hs hv hdf he b cs hrd => ?_⟩;obtain ⟨p1, cur, p2, p3, p4⟩ := hpd j t T ds hpe hal;have ti := (ZU ht).1;have ey := Zap hs hv hy
  have okH : ∀ d' ∈ ds', Zai H d' = true := fun d' hd' => by
    have h1 := List.all_eq_true.1 hok d' hd';unfold Zai at h1 ⊢
    cases d' <;> first | exact h1 | (simp at h1)
  obtain ⟨v1, v2⟩ := Zbb hc (List.all_eq_true.2 okH) ey;have vl := ZJ v1;have hst := run_storeCells_at C.P (β j) 0 T (a.eval y).cells.toList 0 cur w p2 (by rw [vl]; omega) v2
  let cur' : Array Value := (cur.toList.take 0 ++ (a.eval y).cells.toList ++ cur.toList.drop (0 + (a.eval y).cells.toList.length)).toArray
  let w2 := w.setRow (β j) cur'
  have hpt : a.eval (.tmp t) = .pointer (some ⟨β j, 0, none⟩) := by
    simp only [Act.eval];exact Zch p1
  have hrun : (execOp a.eval ⟨none, .store T (.tmp t) y, ty, pos, aft, none⟩).run C.P w = .ok .skip w2 := by
    simp only [execOp, hpt, Sem.run_bind, Instr.storeAt, storeVar, Instr.sureAddr, Sem.run_pure, Result.andThen_ok, ti.run_size]
    have : ¬ (a.eval y).cells.size ≠ te.size := by
      rw [Array.length_toList] at vl;omega
    simp only [this, if_false, Sem.run_bind, Sem.run_pure, Result.andThen_ok];simp only [Nat.add_zero] at hst;rw [hst];simp [w2, cur']
  have hwp : Oper.wp C.P ⟨none, .store T (.tmp t) y, ty, pos, aft, none⟩ a w (fun a' w1 => a' = a ∧ w1 = w2) (fun _ _ _ => False) := by
    unfold Oper.wp; rw [hrun]; exact ⟨rfl, rfl⟩
  rcases Zdj (rest := rest) ho (by simp [Region.wanted]) hwp (by rintro ⟨_, _, h⟩; exact h) b (.inr fun d' w' ⟨h, _⟩ => Zdq (dst := none) (v := undef) h) k cs with ⟨a', w', ⟨e1, e2⟩, hst1⟩ | ⟨_, _, _, h, _⟩
  · subst e1; subst e2
    have hoth : ∀ b', b' ≠ β j → w2.heap[b']? = w.heap[b']? := fun b' hb' => setRow_other w (β j) b' cur' hb'
    have hsz : w2.heap.size = w.heap.size := by simp [w2]
    have hLj : LP L0 β pe (β j) := .inr ⟨j, hpe, rfl⟩
    have hHS : HStep w w2 μ H H := fun i x hx => ⟨x, hx, fun o' e => ⟨o', e, rfl, rfl, rfl, fun b' cur2 hb2 hw => ⟨cur2, by
      subst e
      rw [hoth b' (fun e => (hf j hpe).2.2 i o' hx (by rw [hb2, e]))]; exact hw, rfl⟩⟩⟩
    have st : Step w w2 (forb (LP L0 β pe) μ H) (forb (LP L0 β pe) μ H) μ μ H H :=
      ⟨by omega, fun b' _ hn => hoth b' (fun e => hn (.inl (e ▸ hLj))), fun _ _ h => h, fun _ _ h => h, hHS⟩
    have hs2 : SR C (LP L0 β pe) w2 μ H := by
      refine ⟨hs.len, fun i' o' b' q1 q2 => ((hs.obj i' o' b' q1 q2).same (hoth b' (fun e => (hf j hpe).2.2 i' o' q1 (by rw [q2, e])))).step st, hs.inj, hs.own, fun b' hb' => by rw [hsz]; exact hs.lim b' hb', fun g cs2 hg => ?_⟩;obtain ⟨g1, g2, g3⟩ := hs.glob g cs2 hg;exact ⟨by rw [hsz]; exact g1, g2, GR.step st.pure g1 g2 g3⟩
    have he2 : Evo w0 w2 μ0 μ H0 H := by
      refine ⟨he.os, he.tape, he.output, by rw [hsz]; exact he.size, fun b' hb' hl => ?_, he.live, he.map, HStep.trans he.map he.heap hHS⟩;rw [hoth b' (fun e => by have := (hf j hpe).2.1; omega)];exact he.chg b' hb' hl
    have hrow : w2.heap[β j]? = some (.cells cur' T (0, 0)) := setRow_heap w (β j) cur cur' T (0, 0) p2
    obtain ⟨e, a', w', h3, h4⟩ := hk.out L0 w0 μ0 H0 w2 μ a' β hβ hf (fun j2 t2 T2 cs2 hj2 hal2 => by
        by_cases e : j2 = j
        · subst e
          simp only [Nat.beq_refl, cond_true] at hal2
          injection hal2 with hal2
          injection hal2 with e1 e2
          injection e2 with e2 e3
          subst e1; subst e2; subst e3;refine ⟨p1, cur', hrow, ?_, fun i2 d2 hd2 => ?_⟩
          · simp only [cur', List.take_zero, List.nil_append, List.size_toArray, List.length_append, vl]; omega
          obtain ⟨v, k1, k2⟩ := Z2 v1 hd2;refine ⟨v, ?_, v2 v (List.mem_of_getElem? k1), VR.step st k2⟩;simp only [cur', List.take_zero, List.nil_append, List.getElem?_toArray];rw [List.getElem?_append_left (List.getElem?_eq_some_iff.1 k1).1]; exact k1
        have hb : Nat.beq j2 j = false := by
          cases hb : Nat.beq j2 j with
          | false => rfl
          | true => exact (e (Nat.eq_of_beq_eq_true hb)).elim
        simp only [hb, cond_false] at hal2;obtain ⟨q1, cur2, q2, q3, q4⟩ := hpd j2 t2 T2 cs2 hj2 hal2;refine ⟨q1, cur2, ?_, q3, fun i2 d2 hd2 => ?_⟩
        · rw [hoth (β j2) (fun h => e (hβ j2 j hj2 hpe h))]; exact q2
        obtain ⟨v, m1, m2, m3⟩ := q4 i2 d2 hd2
        exact ⟨v, m1, m2, VR.step st m3⟩) hs2 (VRs.step st hv) (DfR.step st hdf) he2 b cs hrd
    exact ⟨e, a', w', h3, .of_steps hst1 h4⟩
  exact h.elim
theorem AS.adopt {j : Nat} {t : Tmp} {T : TypeId} {cs : List D} {order : List Nat} (hj : pe j = true) (hal : al j = some (t, T, cs)) (hk : AS C Q ops k (env.set t (.ptr H.length 0)) (H ++ [some ⟨cs, T, 1, true, none⟩]) df al (fun i => bif Nat.beq i j then false else pe i) order) :
    AS C Q ops k env H df al pe order := by
  refine ⟨fun L0 w0 μ0 H0 w μ a β hβ hf hpd hs hv hdf he b cs2 hrd => ?_⟩;obtain ⟨p1, cur, p2, p3, p4⟩ := hpd j t T cs hj hal
  let pe' : Nat → Bool := fun i => bif Nat.beq i j then false else pe i
  have hpe : ∀ i, pe' i = true → i ≠ j ∧ pe i = true := fun i hi => by
    by_cases e : i = j
    · subst e; simp only [pe', Nat.beq_refl, cond_true] at hi; cases hi
    have : Nat.beq i j = false := by
      cases hb : Nat.beq i j with
      | false => rfl
      | true => exact (e (Nat.eq_of_beq_eq_true hb)).elim
    simp only [pe', this, cond_false] at hi;exact ⟨e, hi⟩
  have hpe2 : ∀ i, pe i = true → i = j ∨ pe' i = true := fun i hi => by
    by_cases e : i = j
    · exact .inl e
    have : Nat.beq i j = false := by
      cases hb : Nat.beq i j with
      | false => rfl
      | true => exact (e (Nat.eq_of_beq_eq_true hb)).elim
    exact .inr (by simp only [pe', this, cond_false]; exact hi)
  let μ' := μ ++ [β j]
  let H' : Heap := H ++ [some ⟨cs, T, 1, true, none⟩]
  have hlen := hs.len
  have hcase : ∀ (i : Nat) (o' : AObj) (b' : Nat), H'[i]? = some (some o') → μ'[i]? = some b' → (H[i]? = some (some o') ∧ μ[i]? = some b') ∨ (i = H.length ∧ o' = ⟨cs, T, 1, true, none⟩ ∧ b' = β j) := by
    intro i o' b' h1 h2
    by_cases hi : i < H.length
    · rw [List.getElem?_append_left hi] at h1
      rw [List.getElem?_append_left (by rw [hlen]; exact hi)] at h2;exact .inl ⟨h1, h2⟩
    have hi' : i = H.length := by
      have := (List.getElem?_eq_some_iff.1 h1).1;simp [H'] at this;omega
    subst hi'
    have h2' : (μ ++ [β j])[μ.length]? = some b' := by rw [hlen]; exact h2
    simp [H'] at h1;simp at h2';exact .inr ⟨rfl, h1.symm, h2'.symm⟩
  have hm : ∀ i b' : Nat, μ[i]? = some b' → μ'[i]? = some b' := fun i b' h => by
    rw [List.getElem?_append_left (List.getElem?_eq_some_iff.1 h).1]; exact h
  have hh : ∀ (i : Nat) (x : Option AObj), H[i]? = some x → H'[i]? = some x := fun i x h => by
    rw [List.getElem?_append_left (List.getElem?_eq_some_iff.1 h).1]; exact h
  have hfb : ∀ b', forb (LP L0 β pe') μ' H' b' → forb (LP L0 β pe) μ H b' := by
    rintro b' (h | ⟨i, o', q1, q2, q3⟩)
    · rcases h with h | ⟨i, hi, rfl⟩
      · exact .inl (.inl h)
      exact .inl (.inr ⟨i, (hpe i hi).2, rfl⟩)
    rcases hcase i o' b' q1 q3 with ⟨r1, r2⟩ | ⟨_, _, r3⟩
    · exact .inr ⟨i, o', r1, q2, r2⟩
    rw [r3]; exact .inl (.inr ⟨j, hj, rfl⟩)
  have hHS : HStep w w μ H H' := fun i x hx => ⟨x, hh i x hx, fun o' e => ⟨o', e, rfl, rfl, rfl, fun b' cur' _ hw => ⟨cur', hw, rfl⟩⟩⟩
  have st : Step w w (forb (LP L0 β pe) μ H) (forb (LP L0 β pe') μ' H') μ μ' H H' :=
    ⟨Nat.le_refl _, fun _ _ _ => rfl, fun b' _ hn hf' => hn (hfb b' hf'), hm, hHS⟩
  have hblt : β j < w.heap.size := hs.lim _ (.inr ⟨j, hj, rfl⟩)
  have hs' : SR C (LP L0 β pe') w μ' H' := by
    refine ⟨by simp [μ', H', hlen], fun i o' b' q1 q2 => ?_, fun i1 i2 o1 o2 b' q1 q2 q3 q4 ql => ?_, fun i o' b' q1 q2 hL => ?_, fun b' hb' => ?_, fun g cs3 hg => ?_⟩
    · rcases hcase i o' b' q1 q2 with ⟨r1, r2⟩ | ⟨_, rfl, rfl⟩
      · exact (hs.obj i o' b' r1 r2).step st
      exact .of_row rfl ⟨cur, p2, p3, fun i2 d2 hd2 => by
        obtain ⟨v, m1, m2, m3⟩ := p4 i2 d2 hd2
        exact ⟨v, m1, m2, VR.step st m3⟩⟩
    · rcases hcase i1 o1 b' q1 q3 with ⟨r1, r2⟩ | ⟨e1, _, e3⟩ <;> rcases hcase i2 o2 b' q2 q4 with ⟨s1, s2⟩ | ⟨f1, _, f3⟩
      · exact hs.inj i1 i2 o1 o2 b' r1 s1 r2 s2 ql
      · exact ((hf j hj).2.2 i1 o1 r1 (by rw [r2, f3])).elim
      · exact ((hf j hj).2.2 i2 o2 s1 (by rw [s2, e3])).elim
      omega
    · rcases hcase i o' b' q1 q2 with ⟨r1, r2⟩ | ⟨_, _, rfl⟩
      · rcases hL with h | ⟨i3, h3, rfl⟩
        · exact hs.own i o' b' r1 r2 (.inl h)
        exact hs.own i o' _ r1 r2 (.inr ⟨i3, (hpe i3 h3).2, rfl⟩)
      rcases hL with h | ⟨i3, h3, h4⟩
      · exact (hf j hj).1 h
      exact (hpe i3 h3).1 (hβ i3 j (hpe i3 h3).2 hj h4)
    · rcases hb' with h | ⟨i3, h3, rfl⟩
      · exact hs.lim b' (.inl h)
      exact hs.lim _ (.inr ⟨i3, (hpe i3 h3).2, rfl⟩)
    obtain ⟨g1, g2, g3⟩ := hs.glob g cs3 hg;exact ⟨g1, fun hf' => g2 (hfb _ hf'), GR.step st.pure g1 g2 g3⟩
  have he' : Evo w0 w μ0 μ' H0 H' := by
    refine ⟨he.os, he.tape, he.output, he.size, he.chg, fun b' hb' hl => ?_, fun id b' h => hm id b' (he.map id b' h), HStep.trans he.map he.heap hHS⟩;obtain ⟨i, o', q1, q2, q3⟩ := hl
    rcases hcase i o' b' q1 q3 with ⟨r1, r2⟩ | ⟨_, _, r3⟩
    · exact he.live b' hb' ⟨i, o', r1, q2, r2⟩
    have := (hf j hj).2.1; omega
  have hvt : VRs w (forb (LP L0 β pe') μ' H') μ' H' (env.set t (.ptr H.length 0)) a.tmps.toList := by
    have h1 := ZiA (t := t) (d := .ptr H.length 0) (v := .pointer (some ⟨β j, 0, none⟩)) (by simp only [VR]; exact ⟨β j, by rw [← hlen]; simp [μ'], rfl⟩) (VRs.step st hv)
    have h2 : a.tmps.toList.set t (.pointer (some ⟨β j, 0, none⟩)) = a.tmps.toList := by
      apply List.ext_getElem?;intro i;rw [List.getElem?_set]
      by_cases e : t = i
      · subst e; rw [p1]; simp; exact (List.getElem?_eq_some_iff.1 p1).1
      simp [e]
    rw [h2] at h1;exact h1
  exact hk.out L0 w0 μ0 H0 w μ' a β (fun i1 i2 q1 q2 q3 => hβ i1 i2 (hpe i1 q1).2 (hpe i2 q2).2 q3)
    (fun i hi => ⟨(hf i (hpe i hi).2).1, (hf i (hpe i hi).2).2.1, fun i' o' q1 q2 => by
      rcases hcase i' o' _ q1 q2 with ⟨r1, r2⟩ | ⟨_, _, r3⟩
      · exact (hf i (hpe i hi).2).2.2 i' o' r1 r2
      exact (hpe i hi).1 (hβ i j (hpe i hi).2 hj r3)⟩)
    (fun i t2 T2 cs3 hi hal2 => by
      obtain ⟨q1, cur2, q2, q3, q4⟩ := hpd i t2 T2 cs3 (hpe i hi).2 hal2
      exact ⟨q1, cur2, q2, q3, fun i2 d2 hd2 => by
        obtain ⟨v2, m1, m2, m3⟩ := q4 i2 d2 hd2
        exact ⟨v2, m1, m2, VR.step st m3⟩⟩) hs' hvt (DfR.step st hdf) he' b cs2 (hrd.step hm)
theorem AS.run {order : List Nat} (hpe : ∀ j, pe j = false) (hk : ARun C Q (.inRegion ops order :: k) env H df) : AS C Q ops k env H df al pe order := by
  refine ⟨fun L0 w0 μ0 H0 w μ a β hβ hf hpd hs hv hdf he b cs hrd => ?_⟩
  have hsub : ∀ b, L0 b → LP L0 β pe b := fun b hb => .inl hb
  have sst : Step w w (forb (LP L0 β pe) μ H) (forb L0 μ H) μ μ H H := Step.sub (ZeS hsub);exact hk.out L0 w0 μ0 H0 w μ a (hs.shrink hsub) (VRs.step sst hv) (DfR.step sst hdf) he b cs hrd
theorem ARun.ofAS {order : List Nat} (hpe : ∀ j, pe j = false) (hk : AS C Q ops k env H df al pe order) : ARun C Q (.inRegion ops order :: k) env H df := by
  refine ⟨fun L0 w0 μ0 H0 w μ a hs hv hdf he b cs hrd => ?_⟩
  have hno : ∀ j, ¬ pe j = true := fun j h => by rw [hpe j] at h; cases h
  have hsub : ∀ b, LP L0 (fun _ => 0) pe b → L0 b := fun b hb => hb.elim id (fun ⟨j, h, _⟩ => (hno j h).elim)
  have sst : Step w w (forb L0 μ H) (forb (LP L0 (fun _ => 0) pe) μ H) μ μ H H := Step.sub (ZeS hsub);exact hk.out L0 w0 μ0 H0 w μ a (fun _ => 0) (fun i j h => (hno i h).elim) (fun j h => (hno j h).elim) (fun j _ _ _ h => (hno j h).elim) (hs.shrink hsub) (VRs.step sst hv) (DfR.step sst hdf) he b cs hrd
end
abbrev AlcX := Tmp × TypeId × List D × Option (Nat × List D)
def alcS (S : Nat → Bool) : AlcX → Alc
  | (t, T, ds, none) => (t, T, ds)
  | (t, T, ds, some (i, ds')) => (t, T, bif S i then ds' else ds)
def ZaT : List (Nat × AlcX) → Nat → Option AlcX
  | [], _ => none
  | (j, x) :: l, i => bif Nat.beq i j then some x else ZaT l i
def stI (x : AlcX) : Option Nat := x.2.2.2.map (·.1)
def nosA (i : Nat) : List (Nat × AlcX) → Bool
  | [] => true
  | (_, _, _, _, none) :: l => nosA i l
  | (_, _, _, _, some (k, _)) :: l => !(Nat.beq k i) && nosA i l
def finA (S : Nat → Bool) (l : List (Nat × AlcX)) : List (Nat × Alc) := l.map fun p => (p.1, alcS S p.2)
def okA (l : List Oper) (m : Nat) : List (Nat × Option Nat) → Bool
  | [] => true
  | (j, o) :: r => Nat.blt j m && (match o with
    | some k => Nat.blt k m && hasE l k j
    | none => true) && (r.all fun p => !(Nat.beq p.1 j)) && okA l m r
def objA (p : Nat × Alc) : Option AObj := some ⟨p.2.2.2, p.2.2.1, 1, true, none⟩
def Zfj (env : List D) (n : Nat) : List (Nat × Alc) → List D
  | [] => env
  | p :: l => Zfj (env.set p.2.1 (.ptr n 0)) (n + 1) l
def fixE (env : List D) : List (Nat × Alc) → List D
  | [] => env
  | p :: l => fixE (env.set p.2.1 (.sptr p.2.2.2)) l
class FixE (env : List D) (asZ : List (Nat × Alc)) (env' : outParam (List D)) : Prop where
  eq : fixE env asZ = env'
instance FixE.nil {env : List D} : FixE env [] env := ⟨rfl⟩
instance FixE.cons {env e1 e2 : List D} {j : Nat} {t : Tmp} {T : TypeId} {ds : List D} {l : List (Nat × Alc)} [h1 : Put env (some t) (.sptr ds) e1] [h2 : FixE e1 l e2] : FixE env ((j, t, T, ds) :: l) e2 :=
  ⟨by have := h1.eq; simp only [Zu] at this; simp only [fixE]; rw [this]; exact h2.eq⟩
class AdoptE (env : List D) (n : Nat) (asZ : List (Nat × Alc)) (env' : outParam (List D)) : Prop where
  eq : Zfj env n asZ = env'
instance AdoptE.nil {env : List D} {n : Nat} : AdoptE env n [] env := ⟨rfl⟩
instance AdoptE.cons {env e1 e2 : List D} {n : Nat} {j : Nat} {t : Tmp} {T : TypeId} {ds : List D} {l : List (Nat × Alc)} [h1 : Put env (some t) (.ptr n 0) e1] [h2 : AdoptE e1 (n + 1) l e2] : AdoptE env n ((j, t, T, ds) :: l) e2 :=
  ⟨by have := h1.eq; simp only [Zu] at this; simp only [Zfj]; rw [this]; exact h2.eq⟩
section
variable {C : Ctx} {Q : Post} {ops : Array Oper} {k : List Item} {df : List ADef}
theorem AS.fix {env : List D} {H : Heap} {al : Nat → Option Alc} {pe : Nat → Bool} {j : Nat} {t : Tmp} {T : TypeId} {cs : List D} {order : List Nat} (hj : pe j = true) (hal : al j = some (t, T, cs)) (hpu : D.pure.pures cs = true) (hk : AS C Q ops k (env.set t (.sptr cs)) H df al (fun i => bif Nat.beq i j then false else pe i) order) :
    AS C Q ops k env H df al pe order := by
  refine ⟨fun L0 w0 μ0 H0 w μ a β hβ hf hpd hs hv hdf he b cs2 hrd => ?_⟩;obtain ⟨p1, cur, p2, p3, p4⟩ := hpd j t T cs hj hal
  let pe' : Nat → Bool := fun i => bif Nat.beq i j then false else pe i
  have hpe : ∀ i, pe' i = true → i ≠ j ∧ pe i = true := fun i hi => by
    by_cases e : i = j
    · subst e; simp only [pe', Nat.beq_refl, cond_true] at hi; cases hi
    have : Nat.beq i j = false := by
      cases hb : Nat.beq i j with
      | false => rfl
      | true => exact (e (Nat.eq_of_beq_eq_true hb)).elim
    simp only [pe', this, cond_false] at hi;exact ⟨e, hi⟩
  have hLP : ∀ b', LP L0 β pe' b' → LP L0 β pe b' := by
    rintro b' (h | ⟨i, hi, rfl⟩)
    · exact .inl h
    exact .inr ⟨i, (hpe i hi).2, rfl⟩
  have st : Step w w (forb (LP L0 β pe) μ H) (forb (LP L0 β pe') μ H) μ μ H H := Step.sub (ZeS hLP)
  have hno : ¬ forb (LP L0 β pe') μ H (β j) := by
    rintro (h | ⟨i, o, q1, _, q3⟩)
    · rcases h with h | ⟨i, hi, e⟩
      · exact (hf j hj).1 h
      exact (hpe i hi).1 (hβ i j (hpe i hi).2 hj e)
    exact (hf j hj).2.2 i o q1 q3
  have hvp : VR w (forb (LP L0 β pe') μ H) μ H (.sptr cs) (.pointer (some ⟨β j, 0, none⟩)) := by
    simp only [VR];refine ⟨⟨β j, 0, none⟩, rfl, hs.lim _ (.inr ⟨j, hj, rfl⟩), hno, Zfa fun i d hd => ?_⟩;obtain ⟨v, m1, m2, m3⟩ := p4 i d hd;exact ⟨v, by rw [Nat.zero_add, Zek, ZfI p2]; exact m1, m2, VR.step st.pure (VR.drop (Zjs hpu hd) m3)⟩
  have hv' : VRs w (forb (LP L0 β pe') μ H) μ H (env.set t (.sptr cs)) a.tmps.toList := by
    refine ZfE (by rw [ZJ hv]; simp) fun i d v h1 h2 => ?_
    by_cases e : t = i
    · subst e
      rw [p1] at h2
      injection h2 with h2
      subst h2;rw [List.getElem?_set] at h1;simp only [if_true] at h1
      split at h1
      · injection h1 with h1; subst h1; exact hvp
      cases h1
    rw [List.getElem?_set_ne e] at h1;obtain ⟨v', k1, k2⟩ := Z2 hv h1;rw [h2] at k1
    injection k1 with k1
    subst k1;exact VR.step st k2
  exact hk.out L0 w0 μ0 H0 w μ a β (fun i1 i2 q1 q2 q3 => hβ i1 i2 (hpe i1 q1).2 (hpe i2 q2).2 q3) (fun i hi => hf i (hpe i hi).2)
    (fun i t' T' cs' hi hali => by
      obtain ⟨r1, cur', r2, r3, r4⟩ := hpd i t' T' cs' (hpe i hi).2 hali
      exact ⟨r1, cur', r2, r3, fun i2 d2 hd2 => by
        obtain ⟨v, m1, m2, m3⟩ := r4 i2 d2 hd2
        exact ⟨v, m1, m2, VR.step st m3⟩⟩)
    (hs.shrink hLP) hv' (DfR.step st hdf) he b cs2 hrd
theorem AS.adoptAll {al : Nat → Option Alc} {order : List Nat} : ∀ (lst : List (Nat × Alc)) (env : List D) (H : Heap) (pe : Nat → Bool), (lst.map (·.1)).Nodup → (∀ p ∈ lst, al p.1 = some p.2 ∧ pe p.1 = true) → (∀ j, pe j = true → j ∈ lst.map (·.1)) →
    ARun C Q (.inRegion ops order :: k) (Zfj env H.length lst) (H ++ lst.map objA) df → AS C Q ops k env H df al pe order
  | [], env, H, pe, _, _, hpe, hk => AS.run (fun j => by
      cases h : pe j with
      | false => rfl
      | true => have := hpe j h; simp at this) (by simpa [Zfj] using hk)
  | (j, t, T, cs) :: lst, env, H, pe, hnd, hal, hpe, hk => by
    obtain ⟨h1, h2⟩ := hal (j, t, T, cs) (by simp);simp only [List.map_cons, List.nodup_cons] at hnd;refine AS.adopt h2 h1 (AS.adoptAll lst _ _ _ hnd.2 (fun p hp => ?_) (fun i hi => ?_) ?_)
    · obtain ⟨a1, a2⟩ := hal p (List.mem_cons_of_mem _ hp)
      have hne : p.1 ≠ j := fun e => hnd.1 (by rw [← e]; exact List.mem_map_of_mem hp)
      refine ⟨a1, ?_⟩
      have : Nat.beq p.1 j = false := by
        cases hb : Nat.beq p.1 j with
        | false => rfl
        | true => exact (hne (Nat.eq_of_beq_eq_true hb)).elim
      simp only [this, cond_false]; exact a2
    · by_cases e : i = j
      · subst e; simp only [Nat.beq_refl, cond_true] at hi; cases hi
      have : Nat.beq i j = false := by
        cases hb : Nat.beq i j with
        | false => rfl
        | true => exact (e (Nat.eq_of_beq_eq_true hb)).elim
      simp only [this, cond_false] at hi;have := hpe i hi;simp only [List.map_cons, List.mem_cons] at this;exact this.resolve_left e
    simp only [Zfj, List.map_cons, objA] at hk;rw [List.length_append, List.append_assoc];exact hk
theorem AS.fixAll {al : Nat → Option Alc} {order : List Nat} {H : Heap} : ∀ (lst : List (Nat × Alc)) (env : List D) (pe : Nat → Bool), (lst.map (·.1)).Nodup → (∀ p ∈ lst, D.pure.pures p.2.2.2 = true) → (∀ p ∈ lst, al p.1 = some p.2 ∧ pe p.1 = true) → (∀ j, pe j = true → j ∈ lst.map (·.1)) →
    ARun C Q (.inRegion ops order :: k) (fixE env lst) H df → AS C Q ops k env H df al pe order
  | [], env, pe, _, _, _, hpe, hk => AS.run (fun j => by
      cases h : pe j with
      | false => rfl
      | true => have := hpe j h; simp at this) (by simpa [fixE] using hk)
  | (j, t, T, cs) :: lst, env, pe, hnd, hpu, hal, hpe, hk => by
    obtain ⟨h1, h2⟩ := hal (j, t, T, cs) (by simp);simp only [List.map_cons, List.nodup_cons] at hnd;refine AS.fix h2 h1 (hpu (j, t, T, cs) (by simp)) (AS.fixAll lst _ _ hnd.2 (fun p hp => hpu p (List.mem_cons_of_mem _ hp)) (fun p hp => ?_) (fun i hi => ?_) ?_)
    · obtain ⟨a1, a2⟩ := hal p (List.mem_cons_of_mem _ hp)
      have hne : p.1 ≠ j := fun e => hnd.1 (by rw [← e]; exact List.mem_map_of_mem hp)
      refine ⟨a1, ?_⟩
      have : Nat.beq p.1 j = false := by
        cases hb : Nat.beq p.1 j with
        | false => rfl
        | true => exact (hne (Nat.eq_of_beq_eq_true hb)).elim
      simp only [this, cond_false]; exact a2
    · by_cases e : i = j
      · subst e; simp only [Nat.beq_refl, cond_true] at hi; cases hi
      have : Nat.beq i j = false := by
        cases hb : Nat.beq i j with
        | false => rfl
        | true => exact (e (Nat.eq_of_beq_eq_true hb)).elim
      simp only [this, cond_false] at hi;have := hpe i hi;simp only [List.map_cons, List.mem_cons] at this;exact this.resolve_left e
    exact hk
inductive DChG (C : Ctx) (ops : Array Oper) (HS : (Nat → Bool) → Heap) (asF : List (Nat × AlcX)) (KP : D → Prop) (P : List D → Prop → Prop) : Nat → List Oper → List D → Prop → Prop
  | nil {i : Nat} {env : List D} {G : Prop} : P env G → DChG C ops HS asF KP P i [] env G
  | g {i : Nat} {o : Oper} {rest : List Oper} {env env' : List D} {d : D} {g G : Prop} : gOk ops.toList (Zar (o.looksAt ops) 0 env) o.guard = some true →
      (∀ S : Nat → Bool, S i = false → (∀ j, hasE ops.toList i j = true → S j = true) → (∀ j, S j = true → ∀ i', hasE ops.toList j i' = true → S i' = true) → OpH C o (Zar (o.looksAt ops) 0 env) (HS S) (fun d' H' => g ∧ d' = d ∧ H' = HS (upd S i)) (fun d' H' => KP d' ∧ H' = HS S)) → ZaT asF i = none → nosA i asF = true → [Put env o.dst d env'] → DChG C ops HS asF KP P (i + 1) rest env' (G ∧ g) → DChG C ops HS asF KP P i (o :: rest) env G
  | skip {i : Nat} {o : Oper} {rest : List Oper} {env env' : List D} {G : Prop} : gOk ops.toList (Zar (o.looksAt ops) 0 env) o.guard = some false → (∀ S, HS (upd S i) = HS S) → ZaT asF i = none → nosA i asF = true → [Put env o.dst (.tup []) env'] → DChG C ops HS asF KP P (i + 1) rest env' G → DChG C ops HS asF KP P i (o :: rest) env G
  | al {i : Nat} {t : Tmp} {T : TypeId} {te : TE} {dz : D} {ds : List D} {op : Option (Nat × List D)} {ty : TypeId} {pos : String} {aft : Array Edge} {rest : List Oper} {env env' : List D} {G : Prop} : C.ty T = some te → Zas te.zero = some dz → Z7 dz = some ds → ds.all (Zai []) = true → (∀ S, HS (upd S i) = HS S) → Nat.blt t env.length = true → ZaT asF i = some (t, T, ds, op) → nosA i asF = true → [Put env (some t) .any env'] →
      DChG C ops HS asF KP P (i + 1) rest env' G → DChG C ops HS asF KP P i (⟨some t, .alloc T, ty, pos, aft, none⟩ :: rest) env G
  | sp {i j : Nat} {t : Tmp} {T : TypeId} {te : TE} {ds ds' : List D} {d : D} {y : Operand} {ty : TypeId} {pos : String} {aft : Array Edge} {rest : List Oper} {env : List D} {G : Prop} : C.ty T = some te → evO C (Zar ((⟨none, .store T (.tmp t) y, ty, pos, aft, none⟩ : Oper).looksAt ops) 0 env) y = some d → Z7 d = some ds' → ds'.length = te.size → Nat.ble te.size ds.length = true → ds'.all (Zai []) = true → D.pure.pures ds' = true → (∀ S, HS (upd S i) = HS S) → ZaT asF i = none → ZaT asF j = some (t, T, ds, some (i, ds')) → nosA i (asF.filter fun p => !(Nat.beq p.1 j)) = true → hasE ops.toList i j = true →
      DChG C ops HS asF KP P (i + 1) rest env G → DChG C ops HS asF KP P i (⟨none, .store T (.tmp t) y, ty, pos, aft, none⟩ :: rest) env G
section
variable {HS : (Nat → Bool) → Heap} {asF : List (Nat × AlcX)} {KP : D → Prop} {P : List D → Prop → Prop} {i : Nat} {o : Oper} {rest : List Oper} {env env' : List D} {d : D} {g G : Prop}
theorem DChG.op (hg : gOk ops.toList (Zar (o.looksAt ops) 0 env) o.guard = some true) (h : ∀ S, OpQ C o (Zar (o.looksAt ops) 0 env) (HS S) d) (hH : ∀ S, HS (upd S i) = HS S) (n1 : ZaT asF i = none) (n2 : nosA i asF = true) [hp : Put env o.dst d env'] (hk : DChG C ops HS asF KP P (i + 1) rest env' (G ∧ True)) : DChG C ops HS asF KP P i (o :: rest) env G :=
  .g (g := True) hg (fun S _ _ _ => OpH.mono (fun d' H' ⟨h1, h2⟩ => ⟨trivial, h1, by rw [hH]; exact h2⟩) (fun _ _ h => h.elim) (h S)) n1 n2 hk
theorem DChG.st (hg : gOk ops.toList (Zar (o.looksAt ops) 0 env) o.guard = some true) (h : ∀ S : Nat → Bool, S i = false → OpN C o (Zar (o.looksAt ops) 0 env) (HS S) d (HS (upd S i))) (n1 : ZaT asF i = none) (n2 : nosA i asF = true) [hp : Put env o.dst d env'] (hk : DChG C ops HS asF KP P (i + 1) rest env' (G ∧ True)) : DChG C ops HS asF KP P i (o :: rest) env G :=
  .g (g := True) hg (fun S hS _ _ => OpH.mono (fun d' H' ⟨h1, h2⟩ => ⟨trivial, h1, h2⟩) (fun _ _ h => h.elim) (h S hS)) n1 n2 hk
theorem clF {l : List Oper} {S : Nat → Bool} {i j : Nat} (hc : ∀ j, S j = true → ∀ i', hasE l j i' = true → S i' = true) (hn : S i = false) (he : hasE l j i = true) : S j = false := by
  cases h : S j with
  | false => rfl
  | true => have := hc j h i he; rw [hn] at this; cases this
theorem ZnL (hg : gOk ops.toList (Zar (o.looksAt ops) 0 env) o.guard = some true)
    (h : ∀ S : Nat → Bool, S i = false → (∀ j, hasE ops.toList i j = true → S j = true) → (∀ j, S j = true → ∀ i', hasE ops.toList j i' = true → S i' = true) → OpQ C o (Zar (o.looksAt ops) 0 env) (HS S) d) (hH : ∀ S, HS (upd S i) = HS S) (n1 : ZaT asF i = none) (n2 : nosA i asF = true) [hp : Put env o.dst d env'] (hk : DChG C ops HS asF KP P (i + 1) rest env' (G ∧ True)) : DChG C ops HS asF KP P i (o :: rest) env G :=
  .g (g := True) hg (fun S a b c => OpH.mono (fun d' H' ⟨h1, h2⟩ => ⟨trivial, h1, by rw [hH]; exact h2⟩) (fun _ _ h => h.elim) (h S a b c)) n1 n2 hk
theorem ZnM (hg : gOk ops.toList (Zar (o.looksAt ops) 0 env) o.guard = some true)
    (h : ∀ S : Nat → Bool, S i = false → (∀ j, hasE ops.toList i j = true → S j = true) → (∀ j, S j = true → ∀ i', hasE ops.toList j i' = true → S i' = true) → OpN C o (Zar (o.looksAt ops) 0 env) (HS S) d (HS (upd S i))) (n1 : ZaT asF i = none) (n2 : nosA i asF = true) [hp : Put env o.dst d env'] (hk : DChG C ops HS asF KP P (i + 1) rest env' (G ∧ True)) : DChG C ops HS asF KP P i (o :: rest) env G :=
  .g (g := True) hg (fun S a b c => OpH.mono (fun d' H' ⟨h1, h2⟩ => ⟨trivial, h1, h2⟩) (fun _ _ h => h.elim) (h S a b c)) n1 n2 hk
theorem OpQ.pre {H H1 : Heap} (e : H = H1) (h : OpQ C o env H1 d) : OpQ C o env H d := e ▸ h
theorem ZnN {H H1 H2 H3 : Heap} (e : H = H1) (e' : H2 = H3) (h : OpN C o env H1 d H3) : OpN C o env H d H2 := by subst e; subst e'; exact h
end
inductive DAtG (C : Ctx) (ops : Array Oper) (HS : (Nat → Bool) → Heap) (asF : List (Nat × AlcX)) (KP : D → Prop) (i : Nat) : Oper → List D → D → Prop → Prop
  | op {o : Oper} {env : List D} {d : D} {g : Prop} : gOk ops.toList (Zar (o.looksAt ops) 0 env) o.guard = some true → (∀ S : Nat → Bool, S i = false → (∀ j, hasE ops.toList i j = true → S j = true) → (∀ j, S j = true → ∀ i', hasE ops.toList j i' = true → S i' = true) → OpH C o (Zar (o.looksAt ops) 0 env) (HS S) (fun d' H' => g ∧ d' = d ∧ H' = HS (upd S i)) (fun d' H' => KP d' ∧ H' = HS S)) → ZaT asF i = none → nosA i asF = true → DAtG C ops HS asF KP i o env d g
  | skip {o : Oper} {env : List D} {g : Prop} : gOk ops.toList (Zar (o.looksAt ops) 0 env) o.guard = some false → (∀ S, HS (upd S i) = HS S) → ZaT asF i = none → nosA i asF = true → g → DAtG C ops HS asF KP i o env (.tup []) g
  | al {t : Tmp} {T : TypeId} {te : TE} {dz : D} {ds : List D} {op : Option (Nat × List D)} {ty : TypeId} {pos : String} {aft : Array Edge} {env : List D} {g : Prop} : C.ty T = some te → Zas te.zero = some dz → Z7 dz = some ds → ds.all (Zai []) = true → (∀ S, HS (upd S i) = HS S) → t < env.length → ZaT asF i = some (t, T, ds, op) → nosA i asF = true → g → DAtG C ops HS asF KP i ⟨some t, .alloc T, ty, pos, aft, none⟩ env .any g
  | sp {j : Nat} {t : Tmp} {T : TypeId} {te : TE} {ds ds' : List D} {d : D} {y : Operand} {ty : TypeId} {pos : String} {aft : Array Edge} {env : List D} {g : Prop} {dd : D} : C.ty T = some te → evO C (Zar ((⟨none, .store T (.tmp t) y, ty, pos, aft, none⟩ : Oper).looksAt ops) 0 env) y = some d → Z7 d = some ds' → ds'.length = te.size → te.size ≤ ds.length → ds'.all (Zai []) = true → D.pure.pures ds' = true → (∀ S, HS (upd S i) = HS S) → ZaT asF i = none → ZaT asF j = some (t, T, ds, some (i, ds')) → nosA i (asF.filter fun p => !(Nat.beq p.1 j)) = true → hasE ops.toList i j = true → g → DAtG C ops HS asF KP i ⟨none, .store T (.tmp t) y, ty, pos, aft, none⟩ env dd g
theorem DChG.split {HS : (Nat → Bool) → Heap} {asF : List (Nat × AlcX)} {KP : D → Prop} {P : List D → Prop → Prop} (hP : ∀ env G G', (G → G') → P env G' → P env G) {i : Nat} {l : List Oper} {env : List D} {G : Prop} (h : DChG C ops HS asF KP P i l env G) :
    ∃ (e : Nat → List D) (dv : Nat → D) (g : Nat → Prop), e i = env ∧ P (e (i + l.length)) (G ∧ ∀ j, i ≤ j → j < i + l.length → g j) ∧
      (∀ j o, l[j]? = some o → e (i + j + 1) = Zu (e (i + j)) o.dst (dv (i + j)) ∧ DAtG C ops HS asF KP (i + j) o (e (i + j)) (dv (i + j)) (g (i + j))) := by
  have key : ∀ {i : Nat} {o : Oper} {rest : List Oper} {env env' : List D} {d : D} {g0 G G1 : Prop}, env' = Zu env o.dst d → DAtG C ops HS asF KP i o env d g0 → (G ∧ g0 → G1) →
      (∃ (e : Nat → List D) (dv : Nat → D) (g : Nat → Prop), e (i + 1) = env' ∧ P (e (i + 1 + rest.length)) (G1 ∧ ∀ j, i + 1 ≤ j → j < i + 1 + rest.length → g j) ∧
        (∀ j o, rest[j]? = some o → e (i + 1 + j + 1) = Zu (e (i + 1 + j)) o.dst (dv (i + 1 + j)) ∧ DAtG C ops HS asF KP (i + 1 + j) o (e (i + 1 + j)) (dv (i + 1 + j)) (g (i + 1 + j)))) →
      ∃ (e : Nat → List D) (dv : Nat → D) (g : Nat → Prop), e i = env ∧ P (e (i + (o :: rest).length)) (G ∧ ∀ j, i ≤ j → j < i + (o :: rest).length → g j) ∧
        (∀ j o', (o :: rest)[j]? = some o' → e (i + j + 1) = Zu (e (i + j)) o'.dst (dv (i + j)) ∧ DAtG C ops HS asF KP (i + j) o' (e (i + j)) (dv (i + j)) (g (i + j))) := by
    intro i o rest env env' d g0 G G1 h1 h2 h3 hx;obtain ⟨e, dv, gf, k1, k2, k3⟩ := hx;refine ⟨fun j => if j = i then env else e j, fun j => if j = i then d else dv j, fun j => if j = i then g0 else gf j, by simp, ?_, fun j o' ho => ?_⟩
    · have hne : i + (o :: rest).length ≠ i := by simp
      simp only [hne, if_false];rw [show i + (o :: rest).length = i + 1 + rest.length by simp; omega];refine hP _ _ _ (fun x => ⟨h3 ⟨x.1, ?_⟩, fun j hj1 hj2 => ?_⟩) k2
      · have := x.2 i (Nat.le_refl _) (by omega); simpa using this
      have := x.2 j (by omega) (by omega)
      have hne2 : j ≠ i := by omega
      simpa [hne2] using this
    cases j with
    | zero =>
      simp at ho;subst ho
      have : ¬ (i + 1 = i) := by omega
      simp only [Nat.add_zero, this, if_false, if_true];exact ⟨k1.trans h1, h2⟩
    | succ j =>
      have ho' : rest[j]? = some o' := by simpa using ho
      obtain ⟨q1, q2⟩ := k3 j o' ho'
      have n1 : ¬ (i + (j + 1) = i) := by omega
      have n2 : ¬ (i + (j + 1) + 1 = i) := by omega
      simp only [n1, n2, if_false];rw [show i + (j + 1) = i + 1 + j by omega];exact ⟨q1, q2⟩
  induction h with
  | @nil i env G h => exact ⟨fun _ => env, fun _ => .any, fun _ => True, rfl, hP _ _ _ (fun x => x.1) h, fun j o h => by simp at h⟩
  | @g i o rest env env' d g0 G h1 h2 h3 h4 hp hk ih => exact key hp.eq.symm (.op h1 h2 h3 h4) (fun x => x) ih
  | @skip i o rest env env' G h1 h2 h3 h4 hp hk ih => exact key (g0 := True) hp.eq.symm (.skip h1 h2 h3 h4 trivial) (fun x => x.1) ih
  | @al i t T te dz ds op ty pos aft rest env env' G h1 h2 h3 h4 h5 h6 h7 h8 hp hk ih => exact key (g0 := True) hp.eq.symm (.al h1 h2 h3 h4 h5 (Nat.le_of_ble_eq_true h6) h7 h8 trivial) (fun x => x.1) ih
  | sp h1 h2 h3 h4 h5 h6 h7 h8 h9 h10 h11 h12 _ ih => exact key (d := .tup []) (g0 := True) rfl (.sp h1 h2 h3 h4 (Nat.le_of_ble_eq_true h5) h6 h7 h8 h9 h10 h11 h12 trivial) (fun x => x.1) ih
theorem ZdW : ∀ {l : List (Nat × AlcX)} {j : Nat} {x : AlcX}, ZaT l j = some x → (j, x) ∈ l
  | (i, y) :: l, j, x, h => by
    simp only [ZaT] at h
    cases hb : Nat.beq j i with
    | true => rw [hb] at h; simp only [cond_true] at h; injection h with h; have := Nat.eq_of_beq_eq_true hb; subst this; subst h; simp
    | false => rw [hb] at h; simp only [cond_false] at h; exact List.mem_cons_of_mem _ (ZdW h)
theorem Zhj {i : Nat} : ∀ {l : List (Nat × AlcX)} {p : Nat × AlcX}, nosA i l = true → p ∈ l → ∀ k ds', p.2.2.2.2 = some (k, ds') → k ≠ i
  | (j, t, T, ds, none) :: l, p, h, hp, k, ds', e => by
    simp only [nosA] at h
    rcases List.mem_cons.1 hp with rfl | hp
    · cases e
    exact Zhj h hp k ds' e
  | (j, t, T, ds, some (k0, d0)) :: l, p, h, hp, k, ds', e => by
    simp only [nosA, Bool.and_eq_true, Bool.not_eq_true'] at h
    rcases List.mem_cons.1 hp with rfl | hp
    · injection e with e
      injection e with e _
      subst e;intro hki;subst hki;rw [Nat.beq_refl] at h;cases h.1
    exact Zhj h.2 hp k ds' e
theorem alcS_upd {S : Nat → Bool} {i : Nat} {x : AlcX} (h : ∀ k ds', x.2.2.2 = some (k, ds') → k ≠ i) : alcS (upd S i) x = alcS S x := by
  obtain ⟨t, T, ds, o⟩ := x
  cases o with
  | none => rfl
  | some p => obtain ⟨k, d⟩ := p; simp only [alcS]; rw [Zde _ (h k d rfl)]
structure OkA (l : List Oper) (m : Nat) (asF : List (Nat × AlcX)) : Prop where
  nd : (asF.map (·.1)).Nodup
  lt : ∀ p ∈ asF, p.1 < m
  st : ∀ p ∈ asF, ∀ k ds', p.2.2.2.2 = some (k, ds') → k < m ∧ hasE l k p.1 = true
theorem OkA.of {l : List Oper} {m : Nat} : ∀ {asF : List (Nat × AlcX)}, okA l m (asF.map fun p => (p.1, stI p.2)) = true → OkA l m asF
  | [], _ => ⟨by simp, fun p hp => by simp at hp, fun p hp => by simp at hp⟩
  | (j, x) :: r, h => by
    simp only [List.map_cons, okA, Bool.and_eq_true] at h;obtain ⟨⟨⟨h1, h2⟩, h3⟩, h4⟩ := h;have ih := OkA.of h4;refine ⟨?_, fun p hp => ?_, fun p hp k ds' e => ?_⟩
    · simp only [List.map_cons, List.nodup_cons]
      refine ⟨fun hm => ?_, ih.nd⟩;obtain ⟨p, hp1, hp2⟩ := List.mem_map.1 hm;have := List.all_eq_true.1 h3 (p.1, stI p.2) (List.mem_map.2 ⟨p, hp1, rfl⟩);simp only [Bool.not_eq_true'] at this;rw [hp2, Nat.beq_refl] at this;cases this
    · rcases List.mem_cons.1 hp with rfl | hp
      · exact Nat.le_of_ble_eq_true h1
      exact ih.lt p hp
    rcases List.mem_cons.1 hp with rfl | hp
    · simp only [stI] at h2
      simp only at e;rw [e] at h2;simp only [Option.map_some, Bool.and_eq_true] at h2;exact ⟨Nat.le_of_ble_eq_true h2.1, h2.2⟩
    exact ih.st p hp k ds' e
variable {l suf : List Oper} {m : Nat} {env : List D} {H : Heap}
theorem mask_le (ok : OkD l m) {e : Nat → List D} {dv : Nat → D} (hlex : ∀ i, i ≤ m → e i = envS m (ZaN l) dv env (fun j => decide (j < i))) {S : Nat → Bool} {i : Nat} {o : Oper} (ho : l[i]? = some o) (him : i < m) (hnl : S i = false) (hdep : ∀ j, hasE l i j = true → S j = true) (hcl : ∀ j, S j = true → ∀ i', hasE l j i' = true → S i' = true) :
    ZcU (envS m (ZaN l) dv env S) (Zar (o.looksAt l.toArray) 0 (e i)) := by
  rw [hlex i (by omega)]
  refine envLe_of (by simp [envS, Zfd]) fun u d d' h1 h2 => ?_
  rw [ZhP, Zds] at h2;rw [Zds] at h1
  cases hu : env[u]? with
  | none => rw [hu] at h1; simp at h1
  | some d0 =>
    rw [hu] at h1 h2;simp only [Option.map_some, Option.some.injEq, Nat.zero_add] at h1 h2
    cases hc : (o.looksAt l.toArray).contains u with
    | false => rw [hc] at h2; right; rw [← h2]; rfl
    | true =>
      rw [hc] at h2
      left
      rw [← h2, ← h1];simp only [cond_true]
      by_cases hx : ∃ j, j < m ∧ ZaN l j = some u
      · obtain ⟨j, hj1, hj2⟩ := hx
        have hiff : S j = decide (j < i) := by
          by_cases e : j = i
          · subst e; rw [hnl]; simp
          obtain ⟨d1, d2⟩ := ok.dep i j o u him hj1 (fun h => e h.symm) ho hj2 hc
          rcases Nat.lt_or_gt_of_ne e with h | h
          · rw [hdep j (d1 h)]; simp [h]
          have : ¬ j < i := by omega
          simp only [this, decide_false]
          cases hl : S j with
          | false => rfl
          | true =>
            have := hcl j hl i (d2 h);rw [hnl] at this;cases this
        cases hb : decide (j < i) with
        | true => exact (Zdb (S := fun j => decide (j < i)) ok.dist hj1 hb hj2).trans (Zdb (S := S) ok.dist hj1 (by rw [hiff]; exact hb) hj2).symm
        | false =>
          rw [Zbc, Zbc]
          · intro j' a1 a2 a3
            have := ok.dist j j' u hj1 a1 hj2 a3;subst this;rw [hiff, hb] at a2;cases a2
          intro j' a1 a2 a3;have := ok.dist j j' u hj1 a1 hj2 a3;subst this;rw [hb] at a2;cases a2
      rw [Zbc, Zbc]
      · exact fun j a1 _ a3 => hx ⟨j, a1, a3⟩
      exact fun j a1 _ a3 => hx ⟨j, a1, a3⟩
theorem ZnY {id : Nat} {n : Nat} {pre : List Oper} (HS : (Nat → Bool) → Heap) (asF : List (Nat × AlcX)) (KP : D → Prop) {sk : List (Nat × Option Nat)} (hmix : C.P.follows .mixedOrders = true) (hpre : l.take n = pre) (hsuf : l.drop n = suf) (hB : Zea l pre.length = true) (hsk : asF.map (fun p => (p.1, stI p.2)) = sk) (hA : okA l pre.length sk = true) (h0 : H = HS (fun _ => false)) (hp : ∀ env' S d, KP d → Q (.pan d) env' (HS S) df)
    (E : List D → Prop) (hE : ∀ envF, E envF → AS C Q l.toArray k envF (HS (fun j => decide (j < pre.length))) df (fun j => (ZaT asF j).map (alcS (fun j => decide (j < pre.length)))) (fun j => decide (j < pre.length) && (ZaT asF j).isSome) (List.range' pre.length (l.length - pre.length)))
    (hch : DChG C l.toArray HS asF KP (fun envF G => G → E envF) 0 pre env True) : ARun C Q (.code (.region id l.toArray true) :: k) env H df := by
  subst hpre;subst hsuf;subst hsk;have ok := OkD.of hB;have okA := OkA.of hA
  have hmle : (l.take n).length ≤ l.length := by rw [List.length_take]; omega
  obtain ⟨e, dv, g, k1, k2, k3⟩ := hch.split (fun _ _ _ hg h x => h (hg x));generalize hm : (l.take n).length = m at *;simp only [Nat.zero_add] at k2 k3
  have hget : ∀ i o, i < m → l[i]? = some o → e (i + 1) = Zu (e i) o.dst (dv i) ∧ DAtG C l.toArray HS asF KP i o (e i) (dv i) (g i) := fun i o hi ho => k3 i o (by rw [List.getElem?_take, if_pos (by rw [← hm, List.length_take] at hi; omega)]; exact ho)
  have hlex := Zjd (m := m) (dst := ZaN l) (dv := dv) (env := env) ok.dist k1 (fun i hi => by
    obtain ⟨o, ho⟩ : ∃ o, l[i]? = some o := ⟨l[i]'(by omega), by simp⟩;have := (hget i o hi ho).1;simp only [ZaN, ho, Option.bind_some]
    exact this)
  let alS : (Nat → Bool) → Nat → Option Alc := fun S j => (ZaT asF j).map (alcS S)
  have hdstal : ∀ S j t T cs, j < m → alS S j = some (t, T, cs) → ZaN l j = some t := by
    intro S j t T cs hj hal;simp only [alS] at hal;obtain ⟨o, ho⟩ : ∃ o, l[j]? = some o := ⟨l[j]'(by omega), by simp⟩;have hd := (hget j o hj ho).2;generalize dv j = dj at hd;generalize g j = gj at hd;generalize e j = ej at hd
    cases hd with
    | op _ _ h1 _ => rw [h1] at hal; cases hal
    | skip _ _ h1 _ _ => rw [h1] at hal; cases hal
    | al q1 q2 q3 q4 q5 q6 h1 q8 q9 =>
      rw [h1] at hal
      rename_i t' T' te dz ds op ty pos aft
      cases op with
      | none => simp only [Option.map_some, alcS] at hal; injection hal with hal; injection hal with e1 _; subst e1; simp only [ZaN, ho, Option.bind_some]
      | some p => obtain ⟨kk, dd⟩ := p; simp only [Option.map_some, alcS] at hal; injection hal with hal; injection hal with e1 _; subst e1; simp only [ZaN, ho, Option.bind_some]
    | sp _ _ _ _ _ _ _ _ h1 _ _ _ _ => rw [h1] at hal; cases hal
  let Pp : (Nat → Bool) → List Nat → Prop := fun S order => (∀ j, S j = true → j < m ∧ g j) → AS C Q l.toArray k (envS m (ZaN l) dv env S) (HS S) df (alS S) (fun j => S j && (ZaT asF j).isSome) order
  have main : ∀ (fuel t : Nat) (listed : Array Bool), listed.size = l.length → listed.toList.count false = fuel → (∀ j, Go.V.lst listed j = true → j < m ∧ ∀ i, hasE l j i = true → Go.V.lst listed i = true) → Pp (Go.V.lst listed) (Region.linearise.go .any l.toArray fuel t listed []) := by
    refine draw_all ok hmle Pp ?_ ?_
    · -- the end
      intro hS;have := hE _ (k2 ⟨trivial, fun j _ hj => (hS j (by simpa using hj)).2⟩);rw [hlex m (Nat.le_refl _)] at this;exact this
    intro S i rest him hnl hlt hdep hcl hP hg;obtain ⟨o, ho⟩ : ∃ o, l[i]? = some o := ⟨l[i]'(by omega), by simp⟩
    have ho' : l.toArray[i]? = some o := by simpa using ho
    have hmask := mask_le ok hlex ho him hnl hdep hcl
    have henv : envS m (ZaN l) dv env (upd S i) = Zu (envS m (ZaN l) dv env S) o.dst (dv i) := by
      have := Zjc (dv := dv) (env := env) ok.dist (S := S) (S' := upd S i) him (Zdx S i) (fun j hj => Zde S hj)
      simpa only [ZaN, ho, Option.bind_some] using this
    have hgu : g i → ∀ j, upd S i j = true → j < m ∧ g j := fun hgi j hj => by
      by_cases e : j = i
      · subst e; exact ⟨him, hgi⟩
      rw [Zde _ e] at hj; exact hg j hj
    have hod : ZaN l i = o.dst := by simp only [ZaN, ho, Option.bind_some]
    have hdst : ∀ j t T cs, (S j && (ZaT asF j).isSome) = true → alS S j = some (t, T, cs) → o.dst ≠ some t := by
      intro j t T cs hj hal he;simp only [Bool.and_eq_true] at hj;have hjm := hlt j hj.1;have := ok.dist i j t him hjm (hod.trans he) (hdstal S j t T cs hjm hal);subst this;rw [hnl] at hj;cases hj.1
    have hpeU : ZaT asF i = none → (fun j => upd S i j && (ZaT asF j).isSome) = (fun j => S j && (ZaT asF j).isSome) := fun hn => by
      funext j
      by_cases e : j = i
      · subst e; rw [hn]; simp
      rw [Zde _ e]
    have halU : nosA i asF = true → alS (upd S i) = alS S := fun hn => by
      funext j
      simp only [alS]
      cases hx : ZaT asF j with
      | none => rfl
      | some x => simp only [Option.map_some]; rw [alcS_upd (fun kk d' e => Zhj hn (ZdW hx) kk d' e)]
    have hPu := hP;simp only [Pp] at hPu;have hd := (hget i o him ho).2;generalize hdvi : dv i = dvi at hd henv;generalize hgi : g i = gi at hd hgu;generalize hei : e i = ei at hd hmask
    cases hd with
    | op h2 h3 h4 h5 =>
      refine AS.op ho' (gOk_le hmask h2) (OpH.le hmask (h3 S hnl hdep hcl)) hdst (fun d H' ⟨x, y, z⟩ => ?_) (fun d H' ⟨x, y⟩ => by subst y; exact hp _ _ _ x);subst y;subst z;have := hPu (hgu x);rw [henv, hpeU h4, halU h5] at this;exact this
    | skip h2 h5 h4 h6 h7 =>
      refine AS.skip ho' (gOk_le hmask h2) hdst ?_;have := hPu (hgu h7);rw [henv, hpeU h4, halU h6, h5] at this;exact this
    | al h3 h4 h5 h6 h10 h7 h8 h9 h11 =>
      rename_i t T te dz ds op ty pos aft
      have hlS : alS S i = some (t, T, ds) := by
        simp only [alS, h8, Option.map_some]
        cases op with
        | none => rfl
        | some p =>
          obtain ⟨kk, dd⟩ := p;have hst := (okA.st (i, t, T, ds, some (kk, dd)) (ZdW h8) kk dd rfl).2;have : S kk = false := clF hcl hnl hst;simp only [alcS, this, cond_false]
      refine AS.alloc (te := te) (dz := dz) (ds := ds) ho' h3 h4 h5 h6 (by simp [hnl]) hlS (fun j t' T' cs hj hal he => hdst j t' T' cs hj hal (by rw [he])) ?_ ?_
      · rw [← hei, hlex i (by omega)] at h7
        simpa [envS] using h7
      have := hPu (hgu h11);rw [henv, h10, halU h9] at this
      have hpe : (fun j => upd S i j && (ZaT asF j).isSome) = upd (fun j => S j && (ZaT asF j).isSome) i := by
        funext j
        by_cases e : j = i
        · subst e; rw [Zdx, Zdx, h8]; rfl
        rw [Zde _ e, Zde _ e]
      rw [hpe] at this;exact this
    | sp h1 h2 h3 h4 h5 h6 h7 h8 h9 h10 h11 h12 h13 =>
      rename_i j t T te ds ds' d y ty pos aft
      have hy := h2;have hSj : S j = true := hdep j h12
      have hy2 : evO C (envS m (ZaN l) dv env S) y = some d := by
        cases y with
        | tmp t' =>
          simp only [evO] at hy ⊢;obtain ⟨d0, q1, q2⟩ := ZhQ hmask hy
          rcases q2 with q2 | q2
          · rw [q2]; exact q1
          subst q2; simp [Z7] at h3
        | const v => exact hy
        | global gg => exact hy
        | func f => exact hy
      refine AS.stp (j := j) (te := te) (ds := ds) ho' h1 (by simp [hSj, h10]) (by simp only [alS, h10, Option.map_some, alcS, hnl, cond_false]) hy2 h3 h4 h5 h6 h7 ?_;have := hPu (hgu h13);rw [henv, hpeU h9, h8] at this
      have hal2 : alS (upd S i) = fun j' => bif Nat.beq j' j then some (t, T, ds') else alS S j' := by
        funext j'
        by_cases e : j' = j
        · subst e
          simp only [alS, h10, Option.map_some, alcS, Zdx, cond_true, Nat.beq_refl]
        have hb : Nat.beq j' j = false := by
          cases hb : Nat.beq j' j with
          | false => rfl
          | true => exact (e (Nat.eq_of_beq_eq_true hb)).elim
        simp only [alS, hb, cond_false]
        cases hx : ZaT asF j' with
        | none => rfl
        | some x =>
          simp only [Option.map_some];rw [alcS_upd (fun kk d' e2 => Zhj h11 (List.mem_filter.2 ⟨ZdW hx, by simp [hb]⟩) kk d' e2)]
      rw [hal2] at this;exact this
  refine ⟨fun L0 w0 μ0 H0 w μ a hs hv hd he b cs hrd => ?_⟩;have hst := stepR_region_draw (P := C.P) (b := b) (a := a) (k := k) (cs := cs) (w := w) (ops := l.toArray) (id := id);simp only [Region.schedule, hmix, Bool.true_or, if_true] at hst
  have hlst : Go.V.lst (Array.replicate l.toArray.size false) = fun _ => false := by
    funext j
    unfold Go.V.lst;rw [Array.getD_eq_getD_getElem?, Array.getElem?_replicate]
    split <;> rfl
  have hrun := main l.toArray.size (w.tape w.drawn (.order b.fn id)) (Array.replicate l.toArray.size false) (by simp) (by simp) (by
    intro j hj;rw [hlst] at hj
    cases hj)
  simp only [Pp, hlst] at hrun;rw [ZgL, ← h0] at hrun;have hrun2 := ARun.ofAS (by simp) (hrun (fun j hj => by cases hj))
  have hstep : Step w { w with drawn := w.drawn + 1 } (forb L0 μ H) (forb L0 μ H) μ μ H H :=
    ⟨Nat.le_refl _, fun _ _ _ => rfl, fun _ _ h => h, fun _ _ h => h, fun i x hx => ⟨x, hx, fun o e => ⟨o, e, rfl, rfl, rfl, fun b cur _ h => ⟨cur, h, rfl⟩⟩⟩⟩
  have hevo : Evo w { w with drawn := w.drawn + 1 } μ μ H H :=
    ⟨rfl, rfl, rfl, Nat.le_refl _, fun _ _ _ => rfl, fun _ _ h => h, fun _ _ h => h, fun i x hx => ⟨x, hx, fun o e => ⟨o, e, rfl, rfl, rfl, fun b cur _ h => ⟨cur, h, rfl⟩⟩⟩⟩
  have hs' : SR C L0 { w with drawn := w.drawn + 1 } μ H := hs.next hevo hs.len (fun i o b h1 h2 => (hs.obj i o b h1 h2).same rfl) hs.inj hs.own;obtain ⟨e', a', w', h5, h6⟩ := hrun2.out L0 w0 μ0 H0 _ μ a hs' (VRs.step hstep hv) (DfR.step hstep hd) (he.trans hevo) b cs (hrd.step hevo.map);exact ⟨e', a', w', h5, .of_steps (.one hst) h6⟩
theorem ZnD {id : Nat} {n : Nat} {pre : List Oper} (HS : (Nat → Bool) → Heap) (asF : List (Nat × AlcX)) (KP : D → Prop) {sk : List (Nat × Option Nat)} (hmix : C.P.follows .mixedOrders = true) (hpre : l.take n = pre) (hsuf : l.drop n = suf) (hB : Zea l pre.length = true) (hsk : asF.map (fun p => (p.1, stI p.2)) = sk) (hA : okA l pre.length sk = true) (h0 : H = HS (fun _ => false)) (hp : ∀ env' S d, KP d → Q (.pan d) env' (HS S) df)
    (hch : DChG C l.toArray HS asF KP (fun envF G => G → AOps C Q l.toArray suf k (Zfj envF (HS (fun j => Nat.blt j pre.length)).length (finA (fun j => Nat.blt j pre.length) asF)) (HS (fun j => Nat.blt j pre.length) ++ (finA (fun j => Nat.blt j pre.length) asF).map objA) df) 0 pre env True) : ARun C Q (.code (.region id l.toArray true) :: k) env H df := by
  refine ZnY HS asF KP hmix hpre hsuf hB hsk hA h0 hp (fun envF => AOps C Q l.toArray suf k (Zfj envF (HS (fun j => Nat.blt j pre.length)).length (finA (fun j => Nat.blt j pre.length) asF)) (HS (fun j => Nat.blt j pre.length) ++ (finA (fun j => Nat.blt j pre.length) asF).map objA) df) (fun envF hk => ?_) hch;subst hpre;subst hsuf;subst hsk;have okA := OkA.of hA
  have hblt : (fun j => Nat.blt j (l.take n).length) = (fun j => decide (j < (l.take n).length)) := by
    funext j
    cases h : Nat.blt j (l.take n).length with
    | true => exact (decide_eq_true (show j < (l.take n).length from Nat.le_of_ble_eq_true h)).symm
    | false => rw [decide_eq_false]; intro hlt; rw [show Nat.blt j (l.take n).length = true from Nat.ble_eq_true_of_le hlt] at h; cases h
  rw [hblt] at hch;rw [hblt] at hk
  have hnd : ((finA (fun j => decide (j < (l.take n).length)) asF).map (·.1)).Nodup := by
    simp only [finA, List.map_map];exact okA.nd
  refine AS.adoptAll (finA (fun j => decide (j < (l.take n).length)) asF) _ _ _ hnd (fun p hp => ?_) (fun j hj => ?_) ?_
  · obtain ⟨q, hq1, rfl⟩ := List.mem_map.1 hp
    have hl : ZaT asF q.1 = some q.2 := by
      have hn := okA.nd;clear hp hnd hk
      revert hn hq1
      generalize asF = L;intro hq1 hn
      induction L with
      | nil => simp at hq1
      | cons x L ih =>
        simp only [List.map_cons, List.nodup_cons] at hn;obtain ⟨xj, xx⟩ := x;simp only [ZaT]
        rcases List.mem_cons.1 hq1 with rfl | hq
        · simp [Nat.beq_refl]
        have hne : Nat.beq q.1 xj = false := by
          cases hb : Nat.beq q.1 xj with
          | false => rfl
          | true => exact (hn.1 (List.mem_map.2 ⟨q, hq, Nat.eq_of_beq_eq_true hb⟩)).elim
        rw [hne]; exact ih hq hn.2
    have hlt := okA.lt q hq1;exact ⟨by simp only [hl, Option.map_some], by rw [hl, decide_eq_true hlt]; rfl⟩
  · simp only [Bool.and_eq_true, decide_eq_true_eq] at hj
    obtain ⟨a, ha⟩ := Option.isSome_iff_exists.1 hj.2;have := ZdW ha;simp only [finA, List.map_map];exact List.mem_map.2 ⟨(j, a), this, rfl⟩
  have := hk.out (l.take n).length (by rw [List.length_take]; rcases Nat.le_total n l.length with h | h; rw [Nat.min_eq_left h]; rw [Nat.min_eq_right h, List.drop_of_length_le (Nat.le_refl _), List.drop_of_length_le h])
  have hl2 : (l.drop n).length = l.length - (l.take n).length := by
    rw [List.length_drop, List.length_take];omega
  rw [hl2] at this;exact this
theorem ZnF {id : Nat} {n : Nat} {pre : List Oper} (HS : (Nat → Bool) → Heap) (asF : List (Nat × AlcX)) (KP : D → Prop) {sk : List (Nat × Option Nat)} (hmix : C.P.follows .mixedOrders = true) (hpre : l.take n = pre) (hsuf : l.drop n = suf) (hB : Zea l pre.length = true) (hsk : asF.map (fun p => (p.1, stI p.2)) = sk) (hA : okA l pre.length sk = true) (h0 : H = HS (fun _ => false)) (hpu : (finA (fun j => Nat.blt j pre.length) asF).all (fun p => D.pure.pures p.2.2.2) = true) (hp : ∀ env' S d, KP d → Q (.pan d) env' (HS S) df)
    (hch : DChG C l.toArray HS asF KP (fun envF G => G → AOps C Q l.toArray suf k (fixE envF (finA (fun j => Nat.blt j pre.length) asF)) (HS (fun j => Nat.blt j pre.length)) df) 0 pre env True) : ARun C Q (.code (.region id l.toArray true) :: k) env H df := by
  refine ZnY HS asF KP hmix hpre hsuf hB hsk hA h0 hp (fun envF => AOps C Q l.toArray suf k (fixE envF (finA (fun j => Nat.blt j pre.length) asF)) (HS (fun j => Nat.blt j pre.length)) df) (fun envF hk => ?_) hch;subst hpre;subst hsuf;subst hsk;have okA := OkA.of hA
  have hblt : (fun j => Nat.blt j (l.take n).length) = (fun j => decide (j < (l.take n).length)) := by
    funext j
    cases h : Nat.blt j (l.take n).length with
    | true => exact (decide_eq_true (show j < (l.take n).length from Nat.le_of_ble_eq_true h)).symm
    | false => rw [decide_eq_false]; intro hlt; rw [show Nat.blt j (l.take n).length = true from Nat.ble_eq_true_of_le hlt] at h; cases h
  rw [hblt] at hk hpu
  have hnd : ((finA (fun j => decide (j < (l.take n).length)) asF).map (·.1)).Nodup := by
    simp only [finA, List.map_map];exact okA.nd
  refine AS.fixAll (finA (fun j => decide (j < (l.take n).length)) asF) _ _ hnd (fun p hp => List.all_eq_true.1 hpu p hp) (fun p hp => ?_) (fun j hj => ?_) ?_
  · obtain ⟨q, hq1, rfl⟩ := List.mem_map.1 hp
    have hl : ZaT asF q.1 = some q.2 := by
      have hn := okA.nd;clear hp hnd hk hpu
      revert hn hq1
      generalize asF = L;intro hq1 hn
      induction L with
      | nil => simp at hq1
      | cons x L ih =>
        simp only [List.map_cons, List.nodup_cons] at hn;obtain ⟨xj, xx⟩ := x;simp only [ZaT]
        rcases List.mem_cons.1 hq1 with rfl | hq
        · simp [Nat.beq_refl]
        have hne : Nat.beq q.1 xj = false := by
          cases hb : Nat.beq q.1 xj with
          | false => rfl
          | true => exact (hn.1 (List.mem_map.2 ⟨q, hq, Nat.eq_of_beq_eq_true hb⟩)).elim
        rw [hne]; exact ih hq hn.2
    have hlt := okA.lt q hq1;exact ⟨by simp only [hl, Option.map_some], by rw [hl, decide_eq_true hlt]; rfl⟩
  · simp only [Bool.and_eq_true, decide_eq_true_eq] at hj
    obtain ⟨a, ha⟩ := Option.isSome_iff_exists.1 hj.2;have := ZdW ha;simp only [finA, List.map_map];exact List.mem_map.2 ⟨(j, a), this, rfl⟩
  have := hk.out (l.take n).length (by rw [List.length_take]; rcases Nat.le_total n l.length with h | h; rw [Nat.min_eq_left h]; rw [Nat.min_eq_right h, List.drop_of_length_le (Nat.le_refl _), List.drop_of_length_le h])
  have hl2 : (l.drop n).length = l.length - (l.take n).length := by
    rw [List.length_drop, List.length_take];omega
  rw [hl2] at this;exact this
end
theorem ZnH {C : Ctx} {Q : Post} {ops : Array Oper} {rest : List Oper} {k : List Item} {env env' : List D} {H : Heap} {df : List ADef} {asZ as' : List (Nat × Alc)} (has : asZ = as') [ha : FixE env as' env'] (hk : AOps C Q ops rest k env' H df) : AOps C Q ops rest k (fixE env asZ) H df := by
  rw [has, ha.eq]; exact hk
theorem AOps.fin {C : Ctx} {Q : Post} {ops : Array Oper} {rest : List Oper} {k : List Item} {env env' : List D} {H H' : Heap} {df : List ADef} {n : Nat} {asZ as' : List (Nat × Alc)} (hn : H.length = n) (has : asZ = as') [ha : AdoptE env n as' env'] (hH : H ++ asZ.map objA = H') (hk : AOps C Q ops rest k env' H' df) : AOps C Q ops rest k (Zfj env H.length asZ) (H ++ asZ.map objA) df := by
  subst hn; rw [has, ha.eq, ← has, hH]; exact hk
open Go.RowKit Go.Proofs
abbrev Zao (z : Int) : Option AObj := some ⟨[.bool (decide (z < 0)), numD z.natAbs], Zey, 1, true, none⟩
abbrev Zfw : Option AObj := some ⟨[.bool false, .nilsl], Zey, 1, true, none⟩
theorem Zkq (a b : Int) : sgnd (!(decide (a < 0) == decide (b < 0))) (a.natAbs / b.natAbs) = a.tdiv b := by
  have e1 : ∀ n : Nat, decide ((Int.ofNat n) < 0) = false := fun n => decide_eq_false (by simp)
  have e2 : ∀ n : Nat, decide ((Int.negSucc n) < 0) = true := fun n => decide_eq_true (Int.negSucc_lt_zero n)
  cases a <;> cases b <;> simp only [e1, e2] <;> rfl
theorem Zgf (a b : Int) : sgnd (decide (a < 0)) (a.natAbs % b.natAbs) = a.tmod b := by
  have e1 : ∀ n : Nat, decide ((Int.ofNat n) < 0) = false := fun n => decide_eq_false (by simp)
  have e2 : ∀ n : Nat, decide ((Int.negSucc n) < 0) = true := fun n => decide_eq_true (Int.negSucc_lt_zero n)
  cases a <;> cases b <;> simp only [e1, e2] <;> rfl
def ZcC (a b : Int) : Int := sgnd (!(decide (a < 0) == decide (b < 0))) 1
def divW (w : Bool) (a b : Int) : Int × Int :=
  if a.tmod b = 0 ∨ w = false then (a.tdiv b, a.tmod b) else (a.tdiv b + ZcC a b, a.tmod b + -(sgnd (decide (a < 0)) b.natAbs))
theorem fit_tdiv {a b : Int} (ha : fitZ a) : fitZ (a.tdiv b) := by
  unfold fitZ at *; rw [Int.natAbs_tdiv]; exact Nat.le_trans (Zn (Nat.div_le_self _ _)) ha
theorem fit_tmod {a b : Int} (hb : fitZ b) (h0 : b ≠ 0) : fitZ (a.tmod b) := by
  unfold fitZ at *;rw [← Zgf, Zw];exact Nat.le_trans (Zn (Nat.le_of_lt (Nat.mod_lt _ (by omega)))) hb
theorem fit_mono {x y : Int} (h : x.natAbs ≤ y.natAbs) (hy : fitZ y) : fitZ x := Nat.le_trans (Zn h) hy
theorem abs_tmod (a b : Int) : (a.tmod b).natAbs = a.natAbs % b.natAbs := by rw [← Zgf, Zw]
theorem fit_q {a b : Int} (ha : fitZ a) (hr : a.tmod b ≠ 0) (hb : b ≠ 0) : fitZ (a.tdiv b + ZcC a b) := by
  have h1 : (a.tmod b).natAbs ≠ 0 := by omega
  rw [abs_tmod] at h1
  have hb1 : b.natAbs ≠ 1 := fun h => by rw [h, Nat.mod_one] at h1; exact h1 rfl
  have h2 : 2 ≤ b.natAbs := by omega
  have h3 : a.natAbs / b.natAbs + 1 ≤ a.natAbs := by
    have ha0 : 0 < a.natAbs := by
      apply Nat.pos_of_ne_zero;intro h; rw [h, Nat.zero_mod] at h1; exact h1 rfl
    have := Nat.div_lt_self ha0 h2;omega
  refine fit_mono ?_ ha;rw [← Zkq];unfold ZcC;generalize a.natAbs / b.natAbs = q at *
  cases (!(decide (a < 0) == decide (b < 0))) <;> simp only [sgnd, cond_true, cond_false] <;> omega
theorem fit_r {a b : Int} (hb : fitZ b) (h0 : b ≠ 0) : fitZ (a.tmod b + -(sgnd (decide (a < 0)) b.natAbs)) := by
  refine fit_mono ?_ hb;rw [← Zgf];have : a.natAbs % b.natAbs < b.natAbs := Nat.mod_lt _ (by omega)
  cases decide (a < 0) <;> simp only [sgnd, cond_true, cond_false] <;> omega
theorem Zlf (a b : Int) (ha : fitZ a) (hb : fitZ b) (h0 : b ≠ 0) (f : FuncId) (w : Bool) (hf : a.tmod b ≠ 0 → PC C f [intD (a.tdiv b), intD (a.tmod b), intD a, intD b] (fun o => o = .ret (.bool w))) : PC C 183 [intD a, intD b, .agg [.clos f []]] (fun o => o = .ret (.tup [intD (divW w a b).1, intD (divW w a b).2])) := by
  have hres : resD (lim a.natAbs) (lim b.natAbs) = (a.natAbs / b.natAbs, a.natAbs % b.natAbs, 0) := by
    unfold resD; rw [ZaE ha, ZaE hb, Zl, Zl]
    have : (lim b.natAbs).length ≠ 0 := by have := ZB.2 (show b.natAbs ≠ 0 by omega); omega
    simp only [Bool.and_self, cond_true, if_neg this]
  have hdiv : PC C 107 [numD a.natAbs, numD b.natAbs] (fun o => o = .ret (.tup [numD (a.natAbs / b.natAbs), numD (a.natAbs % b.natAbs), .int .i64 0])) := (ZgE (lim a.natAbs) (lim b.natAbs) (Zz _) (Zz _)).mono fun o ho => by rw [ho, hres]
  have hq := ZaM (!(decide (a < 0) == decide (b < 0))) (a.natAbs / b.natAbs);rw [Zkq] at hq;have hr := ZaM (decide (a < 0)) (a.natAbs % b.natAbs);rw [Zgf] at hr
  have hz : (((lim (a.natAbs % b.natAbs)).length : Int) == 0) = decide (a.tmod b = 0) := by
    rw [Bool.eq_iff_iff, beq_iff_eq, decide_eq_true_iff, ← abs_tmod]
    constructor
    · intro h
      apply Classical.byContradiction;intro hn;have := ZB.2 (show (a.tmod b).natAbs ≠ 0 by omega);omega
    intro h; rw [h]; simp [ZA]
  refine Znr Tryz.func183 Tryz.ntmps183 Tryz.results183 ?_;refine go ?_;refine zzb ?_; refine zzb ?_; refine zzb ?_;refine go ?_;refine Zc rfl rfl (hdiv) ?_;refine go ?_;refine Zan rfl (ZQ rfl rfl (ZnI (Zc6 _ 0))) (fun hg => ?_) (fun q hq => by obtain ⟨hq, rfl⟩ := hq; cases hq);refine go ?_;refine ZnD (n := 12) (fun S : Nat → Bool => [bif S 11 then Zao (a.tdiv b) else Zfw, Zfw]) [] (fun _ => False) (sk := []) mixC rfl rfl (by kernel_rfl) rfl (by kernel_rfl) rfl (fun _ _ _ h => h.elim) ?_;refine DChG.op rfl (fun _ => Zb7 rfl rfl rfl (by decide)) (fun _ => rfl) rfl rfl ?_;refine ZnL rfl (fun S hn hd hc => OpQ.pre (H1 := [bif false then Zao (a.tdiv b) else Zfw, Zfw]) (by simp only [(clF hc hn (by kernel_rfl) : S 11 = false)]) (ZP rfl rfl rfl rfl)) (fun _ => rfl) rfl rfl ?_;refine DChG.op rfl (fun _ => Zb7 rfl rfl rfl (by decide)) (fun _ => rfl) rfl rfl ?_;refine ZnL rfl (fun S hn hd hc => OpQ.pre (H1 := [bif false then Zao (a.tdiv b) else Zfw, Zfw]) (by simp only [(clF hc hn (by kernel_rfl) : S 11 = false)]) (ZP rfl rfl rfl rfl)) (fun _ => rfl) rfl rfl ?_;refine DChG.op rfl (fun _ => Zbu rfl rfl rfl) (fun _ => rfl) rfl rfl ?_;refine DChG.op rfl (fun _ => ZaH rfl) (fun _ => rfl) rfl rfl ?_;refine DChG.op rfl (fun _ => Zb rfl rfl (hq)) (fun _ => rfl) rfl rfl ?_;refine DChG.op rfl (fun _ => Zb7 rfl rfl rfl (by decide)) (fun _ => rfl) rfl rfl ?_;refine DChG.op rfl (fun _ => ZP rfl rfl rfl rfl) (fun _ => rfl) rfl rfl ?_;refine DChG.op rfl (fun _ => ZaH rfl) (fun _ => rfl) rfl rfl ?_;refine DChG.op rfl (fun _ => Zb rfl rfl (hr)) (fun _ => rfl) rfl rfl ?_;refine ZnM rfl (fun S hn hd hc => ZnN (H1 := [bif false then Zao (a.tdiv b) else Zfw, Zfw]) (H3 := [bif true then Zao (a.tdiv b) else Zfw, Zfw]) (by simp only [hn]) rfl (Zb2 rfl rfl rfl rfl rfl rfl rfl rfl (Nat.le_of_ble_eq_true rfl) rfl)) rfl rfl ?_;refine .nil (fun hG => AOps.fin (n := 2) (as' := []) (H' := [Zao (a.tdiv b), Zfw]) rfl rfl rfl ?_);refine zzS ?_; refine AOps.nil (ARun.seq (zzs ?_)); refine Zr ?_; refine zzN ?_; refine zzi ?_; refine Zr ?_;refine AOps.bool 39 rfl (fun g => ?_) (fun g => ?_)
  · skip
    rw [hz] at g;have g := Zh g;refine go ?_;refine Znz rfl ?_;refine ARun.seq ?_;refine ZnD (n := 3) (fun S : Nat → Bool => [Zao (a.tdiv b), Zao (a.tmod b)]) [] (fun _ => False) (sk := []) mixC rfl rfl (by kernel_rfl) rfl (by kernel_rfl) rfl (fun _ _ _ h => h.elim) ?_;refine DChG.op rfl (fun _ => Zp rfl rfl rfl rfl rfl rfl) (fun _ => rfl) rfl rfl ?_;refine DChG.op rfl (fun _ => Zp rfl rfl rfl rfl rfl rfl) (fun _ => rfl) rfl rfl ?_;refine ZnM rfl (fun S hn hd hc => ZnN (H1 := [Zao (a.tdiv b), Zao (a.tmod b)]) (H3 := [Zao (a.tdiv b), Zao (a.tmod b)]) rfl rfl (Zb2 rfl rfl rfl rfl rfl rfl rfl rfl (Nat.le_of_ble_eq_true rfl) rfl)) rfl rfl ?_;refine .nil (fun hG => AOps.fin (n := 2) (as' := []) (H' := [Zao (a.tdiv b), Zao (a.tmod b)]) rfl rfl rfl ?_);refine go ?_;refine ARun.ret ?_;refine ⟨_, _, _, Znt rfl rfl rfl rfl rfl rfl (Znt rfl rfl rfl rfl rfl rfl .nil), .cons (.same _) (.cons (.same _) .nil), rfl, ?_⟩;unfold divW; rw [if_pos (.inl g)]; rfl
  rw [hz] at g;have g := Zj g;refine go ?_;refine Zc rfl rfl (hf g) ?_;refine go ?_;refine ARun.cond rfl (fun gw => ?_) (fun gw => ?_)
  · skip
    have gw : w = false := by simpa using gw
    refine ARun.seq ?_;refine ZnD (n := 3) (fun S : Nat → Bool => [Zao (a.tdiv b), Zao (a.tmod b)]) [] (fun _ => False) (sk := []) mixC rfl rfl (by kernel_rfl) rfl (by kernel_rfl) rfl (fun _ _ _ h => h.elim) ?_;refine DChG.op rfl (fun _ => Zp rfl rfl rfl rfl rfl rfl) (fun _ => rfl) rfl rfl ?_;refine DChG.op rfl (fun _ => Zp rfl rfl rfl rfl rfl rfl) (fun _ => rfl) rfl rfl ?_;refine ZnM rfl (fun S hn hd hc => ZnN (H1 := [Zao (a.tdiv b), Zao (a.tmod b)]) (H3 := [Zao (a.tdiv b), Zao (a.tmod b)]) rfl rfl (Zb2 rfl rfl rfl rfl rfl rfl rfl rfl (Nat.le_of_ble_eq_true rfl) rfl)) rfl rfl ?_;refine .nil (fun hG => AOps.fin (n := 2) (as' := []) (H' := [Zao (a.tdiv b), Zao (a.tmod b)]) rfl rfl rfl ?_);refine go ?_;refine ARun.ret ?_;refine ⟨_, _, _, Znt rfl rfl rfl rfl rfl rfl (Znt rfl rfl rfl rfl rfl rfl .nil), .cons (.same _) (.cons (.same _) .nil), rfl, ?_⟩;unfold divW; rw [if_pos (.inr gw)]; rfl
  have gw : w = true := by simpa using gw
  have hdw : divW w a b = (a.tdiv b + ZcC a b, a.tmod b + -(sgnd (decide (a < 0)) b.natAbs)) := by
    unfold divW; rw [if_neg]; rintro (h | h)
    · exact g h
    rw [gw] at h; cases h
  have fitS : fitZ (ZcC a b) := by
    unfold fitZ ZcC; rw [Zw, Zbl]; decide
  have hstep : D.agg [.bool (!(decide (a < 0) == decide (b < 0))), numD 1] = intD (ZcC a b) := by
    unfold ZcC;rw [intD, Zw, ZaO];rw [show decide (0 < 1) = true from rfl, Bool.and_true]
  refine gn ?_;refine Za rfl (Zbu rfl rfl rfl) ?_;refine Za rfl (Znq (Zd rfl rfl rfl rfl rfl rfl rfl rfl rfl rfl rfl (by decide) (by decide) rfl) ZO) ?_;refine Za rfl (Znq (Zal rfl rfl rfl rfl rfl) hstep) ?_;refine go ?_;refine ZnD (n := 12) (fun S : Nat → Bool => [bif S 11 then Zao (a.tdiv b + ZcC a b) else Zao (a.tdiv b), Zao (a.tmod b), Zao (ZcC a b)]) [] (fun _ => False) (sk := []) mixC rfl rfl (by kernel_rfl) rfl (by kernel_rfl) rfl (fun _ _ _ h => h.elim) ?_;refine ZnL rfl (fun S hn hd hc => OpQ.pre (H1 := [bif false then Zao (a.tdiv b + ZcC a b) else Zao (a.tdiv b), Zao (a.tmod b), Zao (ZcC a b)]) (by simp only [(clF hc hn (by kernel_rfl) : S 11 = false)]) (Zp rfl rfl rfl rfl rfl rfl)) (fun _ => rfl) rfl rfl ?_;refine ZnL rfl (fun S hn hd hc => OpQ.pre (H1 := [bif false then Zao (a.tdiv b + ZcC a b) else Zao (a.tdiv b), Zao (a.tmod b), Zao (ZcC a b)]) (by simp only [(clF hc hn (by kernel_rfl) : S 11 = false)]) (Zp rfl rfl rfl rfl rfl rfl)) (fun _ => rfl) rfl rfl ?_;refine DChG.op rfl (fun _ => Zb rfl rfl ((ZiY (a.tdiv b) (ZcC a b) (fit_tdiv ha) fitS).mono (fun o ho => (ho.resolve_right (fun h => h.1 (fit_q ha g h0))).2))) (fun _ => rfl) rfl rfl ?_;refine DChG.op rfl (fun _ => Zp rfl rfl rfl rfl rfl rfl) (fun _ => rfl) rfl rfl ?_;refine DChG.op rfl (fun _ => Zb7 rfl rfl rfl (by decide)) (fun _ => rfl) rfl rfl ?_;refine DChG.op rfl (fun _ => ZP rfl rfl rfl rfl) (fun _ => rfl) rfl rfl ?_;refine DChG.op rfl (fun _ => Zb7 rfl rfl rfl (by decide)) (fun _ => rfl) rfl rfl ?_;refine DChG.op rfl (fun _ => ZP rfl rfl rfl rfl) (fun _ => rfl) rfl rfl ?_;refine DChG.op rfl (fun _ => Zb rfl rfl (ZaM (decide (a < 0)) b.natAbs)) (fun _ => rfl) rfl rfl ?_;refine DChG.op rfl (fun _ => Zb rfl rfl (ZkI (sgnd (decide (a < 0)) b.natAbs))) (fun _ => rfl) rfl rfl ?_;refine DChG.op rfl (fun _ => Zb rfl rfl ((ZiY (a.tmod b) (-(sgnd (decide (a < 0)) b.natAbs)) (fit_tmod hb h0) (fitZ_neg (by unfold fitZ; rw [Zw]; exact hb))).mono (fun o ho => (ho.resolve_right (fun h => h.1 (fit_r hb h0))).2))) (fun _ => rfl) rfl rfl ?_;refine ZnM rfl (fun S hn hd hc => ZnN (H1 := [bif false then Zao (a.tdiv b + ZcC a b) else Zao (a.tdiv b), Zao (a.tmod b), Zao (ZcC a b)]) (H3 := [bif true then Zao (a.tdiv b + ZcC a b) else Zao (a.tdiv b), Zao (a.tmod b), Zao (ZcC a b)]) (by simp only [hn]) rfl (Zb2 rfl rfl rfl rfl rfl rfl rfl rfl (Nat.le_of_ble_eq_true rfl) rfl)) rfl rfl ?_;refine .nil (fun hG => AOps.fin (n := 3) (as' := []) (H' := [Zao (a.tdiv b + ZcC a b), Zao (a.tmod b), Zao (ZcC a b)]) rfl rfl rfl ?_);refine go ?_;refine ARun.ret ?_;refine ⟨_, _, _, Znt rfl rfl rfl rfl rfl rfl (Znt rfl rfl rfl rfl rfl rfl .nil), .cons (.same _) (.cons (.same _) .nil), rfl, ?_⟩;rw [hdw]; rfl
end Go.V
