/- Rules for steps and contracts of functions, each proved; no condition. -/
import Derived.Test.YtaglofmanchabaaGreatDoorA01
set_option linter.unusedVariables false
set_option linter.unusedSimpArgs false
set_option linter.unnecessarySimpa false
namespace Go.V
open Go.RowKit
theorem SR.next {C : Ctx} {L0 : Nat → Prop} {w w' : World} {μ μ' : List Nat} {H H' : Heap} (hs : SR C L0 w μ H) (he : Evo w w' μ μ' H H') (hlen : μ'.length = H'.length)
    (hobj : ∀ (i : Nat) (o : AObj) (b : Nat), H'[i]? = some (some o) → μ'[i]? = some b → ObjR w' w (forb L0 μ H) μ H o b)
    (hinj : ∀ (i j : Nat) (oi oj : AObj) (b : Nat), H'[i]? = some (some oi) → H'[j]? = some (some oj) → μ'[i]? = some b → μ'[j]? = some b → oi.live = true → i = j)
    (hown : ∀ (i : Nat) (o : AObj) (b : Nat), H'[i]? = some (some o) → μ'[i]? = some b → ¬ L0 b) : SR C L0 w' μ' H' := by
  have st := he.step L0;refine ⟨hlen, fun i o b h1 h2 => (hobj i o b h1 h2).step st, hinj, hown, fun b hb => Nat.lt_of_lt_of_le (hs.lim b hb) he.size, fun g cs hg => ?_⟩;obtain ⟨h1, h2, h3⟩ := hs.glob g cs hg;exact ⟨Nat.lt_of_lt_of_le h1 he.size, st.keep g h1 h2, GR.step st.pure h1 h2 h3⟩
theorem SR.block_lt {C : Ctx} {L0 : Nat → Prop} {w : World} {μ : List Nat} {H : Heap} (hs : SR C L0 w μ H) {i b : Nat} {o : AObj} (h1 : H[i]? = some (some o)) (h2 : μ[i]? = some b) : b < w.heap.size := by
  exact (hs.obj i o b h1 h2).lt
theorem SR.forb_lt {C : Ctx} {L0 : Nat → Prop} {w : World} {μ : List Nat} {H : Heap} (hs : SR C L0 w μ H) {b : Nat} (h : forb L0 μ H b) : b < w.heap.size := by
  rcases h with h | ⟨i, o, h1, _, h3⟩
  · exact hs.lim b h
  exact hs.block_lt h1 h3
theorem SR.pushO {C : Ctx} {L0 : Nat → Prop} {w : World} {μ : List Nat} {H : Heap} (hs : SR C L0 w μ H) {ob : Obj} {o : AObj} (hnew : ObjR (w.alloc ob) w (forb L0 μ H) μ H o w.heap.size) :
    SR C L0 (w.alloc ob) (μ ++ [w.heap.size]) (H ++ [some o]) ∧ Evo w (w.alloc ob) μ (μ ++ [w.heap.size]) H (H ++ [some o]) := by
  have hm : ∀ i b : Nat, μ[i]? = some b → (μ ++ [w.heap.size])[i]? = some b := fun i b h => by
    rw [List.getElem?_append_left (List.getElem?_eq_some_iff.1 h).1]; exact h
  have hh : ∀ (i : Nat) (x : Option AObj), H[i]? = some x → (H ++ [some o])[i]? = some x := fun i x h => by
    rw [List.getElem?_append_left (List.getElem?_eq_some_iff.1 h).1]; exact h
  have hcase : ∀ (i : Nat) (o' : AObj) (b : Nat), (H ++ [some o])[i]? = some (some o') → (μ ++ [w.heap.size])[i]? = some b → (H[i]? = some (some o') ∧ μ[i]? = some b) ∨ (i = H.length ∧ o' = o ∧ b = w.heap.size) := by
    intro i o' b h1 h2
    by_cases hi : i < H.length
    · rw [List.getElem?_append_left hi] at h1
      rw [List.getElem?_append_left (by rw [hs.len]; exact hi)] at h2;exact .inl ⟨h1, h2⟩
    have hi' : i = H.length := by
      have := (List.getElem?_eq_some_iff.1 h1).1;simp at this;omega
    subst hi'
    have h2' : (μ ++ [w.heap.size])[μ.length]? = some b := by rw [hs.len]; exact h2
    simp at h1 h2';exact .inr ⟨rfl, h1.symm, h2'.symm⟩
  have he : Evo w (w.alloc ob) μ (μ ++ [w.heap.size]) H (H ++ [some o]) := by
    refine ⟨rfl, rfl, rfl, by simp, fun b hb _ => Below.heap_alloc w _ b hb, fun b hb hl => ?_, hm, fun i x hx => ⟨x, hh i x hx, fun o' e => ⟨o', e, rfl, rfl, rfl, fun b cur' _ hw => ⟨cur', ?_, rfl⟩⟩⟩⟩
    · obtain ⟨i, o', h1, h2, h3⟩ := hl
      rcases hcase i o' b h1 h3 with ⟨k1, k2⟩ | ⟨_, _, k3⟩
      · exact ⟨i, o', k1, h2, k2⟩
      omega
    rw [Below.heap_alloc w _ b (Array.getElem?_eq_some_iff.1 hw).1]; exact hw
  refine ⟨hs.next he (by simp [hs.len]) (fun i o' b h1 h2 => ?_) (fun i j oi oj b h1 h2 h3 h4 hl => ?_) (fun i o' b h1 h2 hL => ?_), he⟩
  · rcases hcase i o' b h1 h2 with ⟨k1, k2⟩ | ⟨_, rfl, rfl⟩
    · exact (hs.obj i o' b k1 k2).same (Below.heap_alloc w _ b (hs.block_lt k1 k2))
    exact hnew
  · rcases hcase i oi b h1 h3 with ⟨k1, k2⟩ | ⟨e1, _, e3⟩ <;> rcases hcase j oj b h2 h4 with ⟨m1, m2⟩ | ⟨f1, _, f3⟩
    · exact hs.inj i j oi oj b k1 m1 k2 m2 hl
    · have := hs.block_lt k1 k2; omega
    · have := hs.block_lt m1 m2; omega
    omega
  rcases hcase i o' b h1 h2 with ⟨k1, k2⟩ | ⟨_, _, rfl⟩
  · exact hs.own i o' b k1 k2 hL
  have := hs.lim _ hL; omega
theorem SR.push {C : Ctx} {L0 : Nat → Prop} {w : World} {μ : List Nat} {H : Heap} (hs : SR C L0 w μ H) {cur : Array Value} {o : AObj} (hlen : o.cells.length ≤ cur.size)
    (hc : ∀ (j : Nat) (d : D), o.cells[j]? = some d → ∃ v : Value, cur[j]? = some v ∧ v.oneCell' = true ∧ VR w (forb L0 μ H) μ H d v) (hsp : o.sp = none := by rfl) :
    SR C L0 (w.alloc (.cells cur o.elem)) (μ ++ [w.heap.size]) (H ++ [some o]) ∧ Evo w (w.alloc (.cells cur o.elem)) μ (μ ++ [w.heap.size]) H (H ++ [some o]) :=
  hs.pushO (.of_row hsp ⟨cur, heap_alloc_new w _, hlen, hc⟩)
theorem SR.write {C : Ctx} {L0 : Nat → Prop} {w : World} {μ : List Nat} {H : Heap} (hs : SR C L0 w μ H) {i b : Nat} {o o' : AObj} {cur cur' : Array Value} (ho : H[i]? = some (some o)) (hb : μ[i]? = some b) (hl : o.live = true)
    (hw : w.heap[b]? = some (.cells cur o.elem (0, 0))) (e1 : o'.elem = o.elem) (e2 : o'.esz = o.esz) (e3 : o'.live = true) (e5 : o'.sp = o.sp) (e4 : o'.cells.length = o.cells.length) (hsz : cur'.size = cur.size)
    (hc : ∀ (j : Nat) (d : D), o'.cells[j]? = some d → ∃ v : Value, cur'[j]? = some v ∧ v.oneCell' = true ∧ VR w (forb L0 μ H) μ H d v) :
    SR C L0 (w.setRow b cur') μ (H.set i (some o')) ∧ Evo w (w.setRow b cur') μ μ H (H.set i (some o')) := by
  have hi : i < H.length := (List.getElem?_eq_some_iff.1 ho).1
  have hcase : ∀ (j : Nat) (x : Option AObj), (H.set i (some o'))[j]? = some x → (j ≠ i ∧ H[j]? = some x) ∨ (j = i ∧ x = some o') := by
    intro j x h;rw [List.getElem?_set] at h
    by_cases hji : i = j
    · subst hji; simp [hi] at h; exact .inr ⟨rfl, h.symm⟩
    simp [hji] at h; exact .inl ⟨fun e => hji e.symm, h⟩
  have hrow : (w.setRow b cur').heap[b]? = some (.cells cur' o.elem (0, 0)) := setRow_heap w b cur cur' o.elem (0, 0) hw
  have hoth : ∀ k, k ≠ b → (w.setRow b cur').heap[k]? = w.heap[k]? := fun k hk => setRow_other w b k cur' hk
  have he : Evo w (w.setRow b cur') μ μ H (H.set i (some o')) := by
    refine ⟨rfl, rfl, rfl, by simp, fun k hk hkl => hoth k (fun e => hkl ⟨i, o, ho, hl, e ▸ hb⟩), fun k hk hkl => ?_, fun _ _ h => h, fun j x hx => ?_⟩
    · obtain ⟨j, oj, h1, h2, h3⟩ := hkl
      rcases hcase j _ h1 with ⟨_, k2⟩ | ⟨rfl, _⟩
      · exact ⟨j, oj, k2, h2, h3⟩
      exact ⟨j, o, ho, hl, h3⟩
    by_cases hji : j = i
    · subst hji
      refine ⟨some o', by simp [hi], fun o'' e => ?_⟩
      injection e with e
      subst e;rw [ho] at hx
      injection hx with hx
      refine ⟨o, hx.symm, e1, e2, e4, fun b' cur'' hb' hw' => ?_⟩;rw [hb] at hb'
      injection hb' with hb'
      subst hb';rw [hw] at hw'
      injection hw' with hw'
      injection hw' with hw'
      subst hw';exact ⟨cur', hrow, hsz⟩
    refine ⟨x, by rw [List.getElem?_set_ne (fun e => hji e.symm)]; exact hx, fun o'' e => ⟨o'', e, rfl, rfl, rfl, fun b' cur'' hb' hw' => ?_⟩⟩;subst e
    have hne : b' ≠ b := fun e => by
      subst e;exact hji (hs.inj i j o o'' b' ho hx hb hb' hl).symm
    exact ⟨cur'', by rw [hoth _ hne]; exact hw', rfl⟩
  refine ⟨hs.next he (by simp [hs.len]) (fun j oj bj h1 h2 => ?_) (fun j k oj ok bj h1 h2 h3 h4 hlj => ?_) (fun j oj bj h1 h2 hL => ?_), he⟩
  · rcases hcase j _ h1 with ⟨hne, k2⟩ | ⟨rfl, e⟩
    · have hnb : bj ≠ b := fun e => by
        subst e;exact hne (hs.inj i j o oj bj ho k2 hb h2 hl).symm
      exact (hs.obj j oj bj k2 h2).same (hoth _ hnb)
    injection e with e
    subst e;rw [hb] at h2
    injection h2 with h2
    subst h2;have hsp := (hs.obj j o b ho hb).sp_none hw;obtain ⟨c, c1, c2, _⟩ := (hs.obj j o b ho hb).row hsp;rw [hw] at c1
    injection c1 with c1
    injection c1 with c1
    subst c1;exact .of_row (e5.trans hsp) ⟨cur', by rw [e1]; exact hrow, by rw [e4, hsz]; exact c2, hc⟩
  · have old : ∀ (m : Nat) (om : AObj), (H.set i (some o'))[m]? = some (some om) → ∃ om', H[m]? = some (some om') ∧ (om.live = true → om'.live = true) := by
      intro m om hm
      rcases hcase m _ hm with ⟨_, k2⟩ | ⟨rfl, e⟩
      · exact ⟨om, k2, fun h => h⟩
      exact ⟨o, ho, fun _ => hl⟩
    obtain ⟨oj', q1, q2⟩ := old j oj h1;obtain ⟨ok', r1, _⟩ := old k ok h2;exact hs.inj j k oj' ok' bj q1 r1 h3 h4 (q2 hlj)
  rcases hcase j _ h1 with ⟨_, k2⟩ | ⟨rfl, _⟩
  · exact hs.own j oj bj k2 h2 hL
  exact hs.own j o bj ho h2 hL
def putB (w : World) (r : Nat) (o : Obj) : World := { w with heap := w.heap.setIfInBounds r o }
theorem ZhL {w : World} {r : Nat} {o : Obj} (h : r < w.heap.size) : (putB w r o).heap[r]? = some o := by simp [putB, h]
theorem putB_other {w : World} {r k : Nat} {o : Obj} (h : k ≠ r) : (putB w r o).heap[k]? = w.heap[k]? := by
  simp [putB, Array.getElem?_setIfInBounds_ne (Ne.symm h)]
theorem SR.putS {C : Ctx} {L0 : Nat → Prop} {w : World} {μ : List Nat} {H : Heap} (hs : SR C L0 w μ H) {i b : Nat} {o : AObj} {x' : Option AObj} {ob : Obj} (ho : H[i]? = some (some o)) (hb : μ[i]? = some b) (hl : o.live = true) (hsp : o.sp ≠ none)
    (hx : ∀ o', x' = some o' → o'.elem = o.elem ∧ o'.esz = o.esz ∧ o'.cells.length = o.cells.length ∧ ObjR (putB w b ob) w (forb L0 μ H) μ H o' b) :
    SR C L0 (putB w b ob) μ (H.set i x') ∧ Evo w (putB w b ob) μ μ H (H.set i x') := by
  have hi : i < H.length := (List.getElem?_eq_some_iff.1 ho).1
  have hcase : ∀ (j : Nat) (x : Option AObj), (H.set i x')[j]? = some x → (j ≠ i ∧ H[j]? = some x) ∨ (j = i ∧ x = x') := by
    intro j x h;rw [List.getElem?_set] at h
    by_cases hji : i = j
    · subst hji; simp [hi] at h; exact .inr ⟨rfl, h.symm⟩
    simp [hji] at h; exact .inl ⟨fun e => hji e.symm, h⟩
  have hoth : ∀ k, k ≠ b → (putB w b ob).heap[k]? = w.heap[k]? := fun k hk => putB_other hk
  have hbl := hs.block_lt ho hb
  have hne : ∀ (j : Nat) (oj : AObj) (bj : Nat), j ≠ i → H[j]? = some (some oj) → μ[j]? = some bj → bj ≠ b := by
    intro j oj bj h1 h2 h3 e;subst e;exact h1 (hs.inj i j o oj bj ho h2 hb h3 hl).symm
  have he : Evo w (putB w b ob) μ μ H (H.set i x') := by
    refine ⟨rfl, rfl, rfl, by simp [putB], fun k hk hkl => hoth k (fun e => hkl ⟨i, o, ho, hl, e ▸ hb⟩), fun k hk hkl => ?_, fun _ _ h => h, fun j x hxj => ?_⟩
    · obtain ⟨j, oj, h1, h2, h3⟩ := hkl
      rcases hcase j _ h1 with ⟨_, k2⟩ | ⟨rfl, _⟩
      · exact ⟨j, oj, k2, h2, h3⟩
      exact ⟨j, o, ho, hl, h3⟩
    by_cases hji : j = i
    · subst hji
      refine ⟨x', by simp [hi], fun o'' e => ?_⟩;obtain ⟨e1, e2, e3, _⟩ := hx o'' e;rw [ho] at hxj
      injection hxj with hxj
      refine ⟨o, hxj.symm, e1, e2, e3, fun b' cur'' hb' hw' => ?_⟩;rw [hb] at hb'
      injection hb' with hb'
      subst hb';exact (hsp ((hs.obj j o b ho hb).sp_none hw')).elim
    refine ⟨x, by rw [List.getElem?_set_ne (fun e => hji e.symm)]; exact hxj, fun o'' e => ⟨o'', e, rfl, rfl, rfl, fun b' cur'' hb' hw' => ?_⟩⟩;subst e;exact ⟨cur'', by rw [hoth _ (hne j o'' b' hji hxj hb')]; exact hw', rfl⟩
  refine ⟨hs.next he (by simp [hs.len]) (fun j oj bj h1 h2 => ?_) (fun j k oj ok bj h1 h2 h3 h4 hlj => ?_) (fun j oj bj h1 h2 hL => ?_), he⟩
  · rcases hcase j _ h1 with ⟨hji, k2⟩ | ⟨rfl, e⟩
    · exact (hs.obj j oj bj k2 h2).same (hoth _ (hne j oj bj hji k2 h2))
    rw [hb] at h2
    injection h2 with h2
    subst h2;exact (hx oj e.symm).2.2.2
  · rcases hcase j _ h1 with ⟨q1, q2⟩ | ⟨rfl, _⟩ <;> rcases hcase k _ h2 with ⟨r1, r2⟩ | ⟨rfl, _⟩
    · exact hs.inj j k oj ok bj q2 r2 h3 h4 hlj
    · rw [hb] at h4; injection h4 with h4; exact (hne j oj bj q1 q2 h3 h4.symm).elim
    · rw [hb] at h3; injection h3 with h3; exact (hne k ok bj r1 r2 h4 h3.symm).elim
    rfl
  rcases hcase j _ h1 with ⟨_, k2⟩ | ⟨rfl, _⟩
  · exact hs.own j oj bj k2 h2 hL
  exact hs.own j o bj ho h2 hL
def HWeak (H H' : Heap) : Prop := H'.length = H.length ∧ ∀ (i : Nat) (x : Option AObj), H[i]? = some x → ∃ x' : Option AObj, H'[i]? = some x' ∧ ∀ o' : AObj, x' = some o' → ∃ o : AObj, x = some o ∧ o'.cells = o.cells ∧ o'.elem = o.elem ∧ o'.esz = o.esz ∧ o'.sp = o.sp ∧ (o'.live = true → o.live = true)
theorem HWeak.refl (H : Heap) : HWeak H H := ⟨rfl, fun i x h => ⟨x, h, fun o' e => ⟨o', e, rfl, rfl, rfl, rfl, fun h => h⟩⟩⟩
theorem HWeak.back {H H' : Heap} (h : HWeak H H') {i : Nat} {o' : AObj} (h1 : H'[i]? = some (some o')) : ∃ o : AObj, H[i]? = some (some o) ∧ o'.cells = o.cells ∧ o'.elem = o.elem ∧ o'.esz = o.esz ∧ o'.sp = o.sp ∧ (o'.live = true → o.live = true) := by
  have hi : i < H.length := by rw [← h.1]; exact (List.getElem?_eq_some_iff.1 h1).1
  obtain ⟨x', k1, k2⟩ := h.2 i H[i] (by simp [hi]);rw [h1] at k1
  injection k1 with k1
  obtain ⟨o, e, r⟩ := k2 o' k1.symm;exact ⟨o, by rw [← e]; simp [hi], r⟩
theorem SR.weak {C : Ctx} {L0 : Nat → Prop} {w : World} {μ : List Nat} {H H' : Heap} (hs : SR C L0 w μ H) (h : HWeak H H') : SR C L0 w μ H' ∧ Evo w w μ μ H H' := by
  have he : Evo w w μ μ H H' := by
    refine ⟨rfl, rfl, rfl, Nat.le_refl _, fun _ _ _ => rfl, fun b _ hl => ?_, fun _ _ h => h, fun i x hx => ?_⟩
    · obtain ⟨i, o', h1, h2, h3⟩ := hl
      obtain ⟨o, k1, _, _, _, _, k5⟩ := h.back h1;exact ⟨i, o, k1, k5 h2, h3⟩
    obtain ⟨x', h1, h2⟩ := h.2 i x hx;refine ⟨x', h1, fun o' e => ?_⟩;obtain ⟨o, e0, e1, e2, e3, _⟩ := h2 o' e;exact ⟨o, e0, e2, e3, by rw [e1], fun b cur _ hw => ⟨cur, hw, rfl⟩⟩
  refine ⟨hs.next he (by rw [hs.len, h.1]) (fun i o' b h1 h2 => ?_) (fun i j oi oj b h1 h2 h3 h4 hl => ?_) (fun i o' b h1 h2 => ?_), he⟩
  · obtain ⟨o, k1, k2, k3, k4, k6, _⟩ := h.back h1
    exact (hs.obj i o b k1 h2).like k2 k3 k6
  · obtain ⟨o1, k1, _, _, _, _, k5⟩ := h.back h1
    obtain ⟨o2, m1, _⟩ := h.back h2;exact hs.inj i j o1 o2 b k1 m1 h3 h4 (k5 hl)
  obtain ⟨o, k1, _⟩ := h.back h1;exact hs.own i o b k1 h2
theorem ARun.weak {C : Ctx} {Q : Post} {k : List Item} {env : List D} {H H' : Heap} {df : List ADef} (hw : HWeak H H') (h : ARun C Q k env H' df) : ARun C Q k env H df := by
  refine ⟨fun L0 w0 μ0 H0 w μ a hs hv hd he b cs hrd => ?_⟩;obtain ⟨hs', he'⟩ := hs.weak hw;have st := he'.step L0;exact h.out L0 w0 μ0 H0 w μ a hs' (VRs.step st hv) (DfR.step st hd) (he.trans he') b cs (hrd.step he'.map)
def ZcU : List D → List D → Prop
  | [], [] => True
  | d :: ds, e :: es => (e = d ∨ e = .any) ∧ ZcU ds es
  | _, _ => False
theorem VRs.le {w : World} {L : Nat → Prop} {μ : List Nat} {H : Heap} : ∀ {env env' : List D} {vs : List Value}, ZcU env env' → VRs w L μ H env vs → VRs w L μ H env' vs
  | [], [], vs, _, h => h
  | [], _ :: _, _, hl, _ => hl.elim
  | _ :: _, [], _, hl, _ => hl.elim
  | d :: ds, e :: es, vs, hl, h => by
    simp only [VRs] at h ⊢;obtain ⟨v, us, h1, h2, h3⟩ := h;refine ⟨v, us, h1, ?_, VRs.le hl.2 h3⟩
    rcases hl.1 with rfl | rfl
    · exact h2
    simp only [VR]
theorem ARun.env {C : Ctx} {Q : Post} {k : List Item} {env env' : List D} {H : Heap} {df : List ADef} (hl : ZcU env env') (h : ARun C Q k env' H df) : ARun C Q k env H df :=
  ⟨fun L0 w0 μ0 H0 w μ a hs hv hd he b cs hrd => h.out L0 w0 μ0 H0 w μ a hs (VRs.le hl hv) hd he b cs hrd⟩
def D.scal : D → Bool
  | .agg _ | .tup _ | .any => false
  | _ => true
theorem VR.one {w : World} {L : Nat → Prop} {μ : List Nat} {H : Heap} {d : D} {v : Value} (hd : d.scal = true) (h : VR w L μ H d v) (hrow : ∀ id n, d = .row id n → ∃ o : AObj, H[id]? = some (some o)) : v.oneCell' = true := by
  cases d <;> simp only [D.scal] at hd <;> first | (cases hd; done) | skip
  all_goals simp only [VR] at h
  case int => subst h; rfl
  case bool => subst h; rfl
  case str => subst h; rfl
  case sl => obtain ⟨a, cap, rfl, _⟩ := h; rfl
  case nilsl => subst h; rfl
  case row id n =>
    obtain ⟨o, ho⟩ := hrow id n rfl;obtain ⟨x, hx, h2⟩ := h;rw [ho] at hx
    injection hx with hx
    obtain ⟨b, cap, cur, _, rfl, _⟩ := h2 o hx.symm;rfl
  case sptr => obtain ⟨ad, rfl, _⟩ := h; rfl
  case ptr => obtain ⟨b, _, rfl⟩ := h; rfl
  case sub => obtain ⟨b, cap, _, rfl, _⟩ := h; rfl
  case mapv => obtain ⟨b, es, c, rfl, _⟩ := h; rfl
  case nilptr => subst h; rfl
  case clos => obtain ⟨vs, rfl, _⟩ := h; rfl
  case bnd => obtain ⟨vs, rfl, _⟩ := h; rfl
  case nilfn => subst h; rfl
  case iface => obtain ⟨u, rfl, _⟩ := h; rfl
  case niliface => subst h; rfl
  case yld => obtain ⟨b, _, rfl⟩ := h; rfl
  case mapp => obtain ⟨b, _, rfl⟩ := h; rfl
def Zai (H : Heap) (d : D) : Bool :=
  d.scal && match d with
  | .row id _ => match H[id]? with
    | some (some _) => true
    | _ => false
  | _ => true
theorem Zd7 {w : World} {L : Nat → Prop} {μ : List Nat} {H : Heap} {d : D} {v : Value} (hd : Zai H d = true) (h : VR w L μ H d v) : v.oneCell' = true := by
  simp only [Zai, Bool.and_eq_true] at hd
  refine VR.one hd.1 h fun id n e => ?_
  subst e;have h2 := hd.2;simp only at h2
  split at h2
  · rename_i o ho; exact ⟨o, ho⟩
  cases h2
def Z7 : D → Option (List D)
  | .agg cs => some cs
  | .any => none
  | .tup _ => none
  | d => some [d]
theorem Zbb {w : World} {L : Nat → Prop} {μ : List Nat} {H : Heap} {d : D} {ds : List D} {v : Value} (hd : Z7 d = some ds) (hk : ds.all (Zai H) = true) (h : VR w L μ H d v) : VRs w L μ H ds v.cells.toList ∧ ∀ u ∈ v.cells.toList, u.oneCell' = true := by
  have key : VRs w L μ H ds v.cells.toList := by
    cases d <;> simp only [Z7] at hd <;> first | (cases hd; done) | (injection hd with hd; subst hd)
    case agg cs =>
      simp only [VR] at h;obtain ⟨vs, rfl, h2⟩ := h
      simpa [Value.cells] using h2
    all_goals
      have h1 : v.oneCell' = true := Zd7 (by simpa using hk) h
      have hc : v.cells.toList = [v] := by cases v <;> first | rfl | (simp [Value.oneCell'] at h1)
      rw [hc];simp only [VRs];exact ⟨v, [], rfl, h, rfl⟩
  refine ⟨key, fun u hu => ?_⟩;obtain ⟨j, hj⟩ := List.mem_iff_getElem?.1 hu
  have hlt : j < ds.length := by
    rw [← ZJ key];exact (List.getElem?_eq_some_iff.1 hj).1
  obtain ⟨v', k1, k2⟩ := Z2 key (List.getElem?_eq_getElem hlt);rw [hj] at k1
  injection k1 with k1
  subst k1;exact Zd7 (List.all_eq_true.1 hk _ (List.getElem_mem hlt)) k2
section
variable {C : Ctx} {env : List D} {H : Heap} {dst : Option Tmp} {ty : TypeId} {pos : String} {aft : Array Edge} {gd : Option (Nat × Bool)} {x y z : Operand} {d : D}
variable {T e : TypeId} {desc descE : TypeDesc} {size bytes sizeE bytesE : Nat} {zero zeroE : Value}
theorem ZnV {o : Oper} {ob : AObj} {dv : D} (h : ∀ (L0 : Nat → Prop) (w : World) (μ : List Nat) (a : Act), SR C L0 w μ H → (∀ x d, evO C env x = some d → VR w (forb L0 μ H) μ H d (a.eval x)) →
      ∃ (v : Value) (cur : Array Value), (execOp a.eval o).run C.P w = .ok (.value v) (w.alloc (.cells cur ob.elem)) ∧ ob.cells.length ≤ cur.size ∧
        (∀ (j : Nat) (d : D), ob.cells[j]? = some d → ∃ v : Value, cur[j]? = some v ∧ v.oneCell' = true ∧ VR w (forb L0 μ H) μ H d v) ∧
        (SR C L0 (w.alloc (.cells cur ob.elem)) (μ ++ [w.heap.size]) (H ++ [some ob]) → (μ ++ [w.heap.size])[H.length]? = some w.heap.size → VR (w.alloc (.cells cur ob.elem)) (forb L0 (μ ++ [w.heap.size]) (H ++ [some ob])) (μ ++ [w.heap.size]) (H ++ [some ob]) dv v)) (hsp : ob.sp = none := by rfl) :
    OpH C o env H (fun d H' => d = dv ∧ H' = H ++ [some ob]) (fun _ _ => False) := by
  refine ⟨fun L0 w μ a hs hv => ?_⟩;obtain ⟨v, cur, h1, h2, h3, h4⟩ := h L0 w μ a hs (fun x d hx => Zap hs hv hx);unfold Oper.wp;rw [h1];obtain ⟨s1, s2⟩ := hs.push h2 h3 hsp;exact ⟨v, dv, _, _, ⟨rfl, rfl⟩, rfl, s1, h4 s1 (by rw [← hs.len]; simp), s2⟩
theorem o_box {ds : List D} (hx : evO C env x = some d) (hd : Z7 d = some ds) (hk : ds.all (Zai H) = true) : OpH C ⟨dst, .box T x, ty, pos, aft, gd⟩ env H (fun d H' => d = .ptr H.length 0 ∧ H' = H ++ [some ⟨ds, T, 1, true, none⟩]) (fun _ _ => False) :=
  ZnV (ob := ⟨ds, T, 1, true, none⟩) fun L0 w μ a hs he => by
    obtain ⟨h1, h2⟩ := Zbb hd hk (he _ _ hx);refine ⟨.pointer (some ⟨w.heap.size, 0, none⟩), (a.eval x).cells, by simp [execOp, Instr.box, newVar, newRow], ?_, fun j d' hd' => ?_, fun _ hl => by simp only [VR]; exact ⟨_, hl, rfl⟩⟩
    · have := ZJ h1; simp at this; simp [this]
    obtain ⟨v, k1, k2⟩ := Z2 h1 hd';exact ⟨v, by simpa using k1, h2 v (List.mem_of_getElem? k1), k2⟩
theorem Zna {dz : D} {ds : List D} (ti : TIC C T desc size bytes zero) (hz : Zas zero = some dz) (hd : Z7 dz = some ds) (hk : ds.all (Zai H) = true) : OpH C ⟨dst, .alloc T, ty, pos, aft, gd⟩ env H (fun d H' => d = .ptr H.length 0 ∧ H' = H ++ [some ⟨ds, T, 1, true, none⟩]) (fun _ _ => False) :=
  ZnV (ob := ⟨ds, T, 1, true, none⟩) fun L0 w μ a hs he => by
    obtain ⟨h1, h2⟩ := Zbb (w := w) (L := forb L0 μ H) (μ := μ) (H := H) hd hk (ZaZ hz);refine ⟨.pointer (some ⟨w.heap.size, 0, none⟩), zero.cells, by simp [execOp, Instr.alloc, ti.run_zero, newVar, newRow], ?_, fun j d' hd' => ?_, fun _ hl => by simp only [VR]; exact ⟨_, hl, rfl⟩⟩
    · have := ZJ h1; simp at this; simp [this]
    obtain ⟨v, k1, k2⟩ := Z2 h1 hd';exact ⟨v, by simpa using k1, h2 v (List.mem_of_getElem? k1), k2⟩
def Zdr (dz : D) (n : Nat) : List D := List.replicate n dz
theorem Zk6 {k k' : IntKind} {n : Nat} {dz : D} (ht : UN C T (.slice e)) (te : TIC C e descE 1 bytesE zeroE) (hz : ZbU zeroE = some dz) (hx : evO C env x = some (.int k n)) (hy : evO C env y = some (.int k' n)) (hb : bytesE * n ≤ 281474976710656) (hm : n ≤ maxLen) :
    OpH C ⟨dst, .makeSlice T x y, ty, pos, aft, gd⟩ env H (fun d H' => d = .row H.length n ∧ H' = H ++ [some ⟨Zdr dz n, e, 1, true, none⟩]) (fun _ _ => False) :=
  ZnV (ob := ⟨Zdr dz n, e, 1, true, none⟩) fun L0 w μ a hs he => by
    have ex := he _ _ hx;have ey := he _ _ hy;simp only [VR] at ex ey;obtain ⟨i, i1, i2, i3, i4⟩ := te.infos
    have hb' : (i.bytes : Int) * (n : Int) ≤ 281474976710656 := by
      rw [i3]
      have h : ((bytesE * n : Nat) : Int) ≤ 281474976710656 := by omega
      rwa [Int.natCast_mul] at h
    have hm' : (n : Int) ≤ 9223372036854775807 := by
      have h := hm;simp [maxLen] at h;omega
    have hr := run_make (P := C.P) w T e i zeroE ht i1 i4 k k' n n (by omega) (Int.le_refl _) hb' hm';simp only [Int.toNat_natCast, i2, Nat.mul_one] at hr
    have hzc : zeroE.cells = #[zeroE] := by
      unfold ZbU at hz
      split at hz <;> first | rfl | (cases hz)
    have hone : zeroE.oneCell' = true := by
      unfold ZbU at hz
      split at hz <;> first | rfl | (cases hz)
    refine ⟨.slice (some ⟨w.heap.size, 0, none⟩) n n, madeCells zeroE.cells n, by simp [execOp, ex, ey, hr], by simp [Zdr, size_madeCells], fun j d' hd' => ?_, fun _ hl => ?_⟩
    · simp only [Zdr, List.getElem?_replicate] at hd'
      split at hd'
      · rename_i hj
        injection hd' with hd'
        subst hd';refine ⟨zeroE, ?_, hone, Zfb hz⟩;simp [madeCells, hzc, hj, Nat.mod_one]
      cases hd'
    simp only [VR];refine ⟨some ⟨Zdr dz n, e, 1, true, none⟩, by simp, fun o' e' => ?_⟩
    injection e' with e'
    subst e';exact ⟨w.heap.size, n, _, hl, rfl, Nat.le_refl _, hm, heap_alloc_new w _, by simp [size_madeCells], by simp [Zdr]⟩
theorem ZhM {P : Program} {w : World} {t : TypeId} {desc : TypeDesc} {bytes : Nat} {zero : Value} (ti : TI P t desc 1 bytes zero) {b off : Nat} {cur : Array Value} {el : TypeId} {v : Value} (hw : w.heap[b]? = some (.cells cur el (0, 0))) (ho : off < cur.size) (hv : v.oneCell' = true) :
    (Instr.storeAt t (.pointer (some ⟨b, off, none⟩)) v).run P w = .ok () (w.setRow b (cur.setIfInBounds off v)) := by
  have hc : v.cells = #[v] := by cases v <;> first | rfl | (simp [Value.oneCell'] at hv)
  have h1 := run_storeCells_at P b off el [v] 0 cur w hw (by simp; omega) (by simpa using hv);unfold Instr.storeAt storeVar;simp only [Sem.run_bind, Instr.sureAddr, Sem.run_pure, Result.andThen_ok, ti.run_size, hc]
  have hne : ¬ (#[v] : Array Value).size ≠ 1 := by simp
  simp only [hne, if_false, Sem.run_bind, Sem.run_pure, Result.andThen_ok];refine h1.trans ?_
  congr 2
  apply Array.ext';simp only [Nat.add_zero, List.length_cons, List.length_nil, Nat.zero_add, Array.toList_setIfInBounds];rw [List.set_eq_take_append_cons_drop, if_pos (by simpa using ho)];simp
theorem ZmI {i off : Nat} {o : AObj} (ti : TIC C T desc 1 bytes zero) (hx : evO C env x = some (.ptr i off)) (hy : evO C env y = some d) (hk : Zai H d = true) (ho : H[i]? = some (some o)) (hl : o.live = true) (hoff : off < o.cells.length) :
    OpH C ⟨dst, .store T x y, ty, pos, aft, gd⟩ env H (fun d' H' => d' = .tup [] ∧ H' = H.set i (some { o with cells := o.cells.set off d })) (fun _ _ => False) := by
  refine ⟨fun L0 w μ a hs hv => ?_⟩;have ex := Zap hs hv hx;have ey := Zap hs hv hy;simp only [VR] at ex;obtain ⟨b, hb, ex⟩ := ex;obtain ⟨cur, c1, c2, c3⟩ := (hs.obj i o b ho hb).row ((hs.obj i o b ho hb).sp_cells (List.getElem?_eq_getElem hoff));have h1 := Zd7 hk ey;have hr := ZhM (P := C.P) ti c1 (Nat.lt_of_lt_of_le hoff c2) h1
  have hrun : (execOp a.eval ⟨dst, .store T x y, ty, pos, aft, gd⟩).run C.P w = .ok .skip (w.setRow b (cur.setIfInBounds off (a.eval y))) := by
    simp only [execOp, ex, Sem.run_bind, hr, Result.andThen_ok, Sem.run_pure]
  unfold Oper.wp;rw [hrun]
  obtain ⟨s1, s2⟩ := hs.write (o' := { o with cells := o.cells.set off d }) (cur' := cur.setIfInBounds off (a.eval y)) ho hb hl c1 rfl rfl hl rfl (by simp) (by simp) (fun j d' hd' => by
    simp only [List.getElem?_set] at hd'
    by_cases hj : off = j
    · subst hj
      simp [hoff] at hd';subst hd';exact ⟨a.eval y, by simp [Nat.lt_of_lt_of_le hoff c2], h1, ey⟩
    simp [hj] at hd';obtain ⟨v, k1, k2⟩ := c3 j d' hd'
    exact ⟨v, by rw [Array.getElem?_setIfInBounds_ne hj]; exact k1, k2⟩)
  exact ⟨undef, .tup [], _, μ, ⟨rfl, rfl⟩, rfl, s1, by simp only [VR]; exact ⟨[], rfl, by simp [VRs]⟩, s2⟩
def Zfv (cs : List D) (off : Nat) (ds : List D) : List D := cs.take off ++ ds ++ cs.drop (off + ds.length)
theorem ZmJ {i off : Nat} {o : AObj} {ds : List D} (ti : TIC C T desc size bytes zero) (hx : evO C env x = some (.ptr i off)) (hy : evO C env y = some d) (hc : Z7 d = some ds) (hn : ds.length = size) (hk : ds.all (Zai H) = true) (ho : H[i]? = some (some o)) (hl : o.live = true) (hoff : off + ds.length ≤ o.cells.length) (hsp : o.sp = none) :
    OpH C ⟨dst, .store T x y, ty, pos, aft, gd⟩ env H (fun d' H' => d' = .tup [] ∧ H' = H.set i (some { o with cells := Zfv o.cells off ds })) (fun _ _ => False) := by
  refine ⟨fun L0 w μ a hs hv => ?_⟩;have ex := Zap hs hv hx;have ey := Zap hs hv hy;simp only [VR] at ex;obtain ⟨b, hb, ex⟩ := ex;obtain ⟨cur, c1, c2, c3⟩ := (hs.obj i o b ho hb).row hsp;obtain ⟨v1, v2⟩ := Zbb hc hk ey;have vl := ZJ v1;have hst := run_storeCells_at C.P b off o.elem (a.eval y).cells.toList 0 cur w c1 (by rw [vl]; omega) v2
  have hrun : (execOp a.eval ⟨dst, .store T x y, ty, pos, aft, gd⟩).run C.P w = .ok .skip (w.setRow b (cur.toList.take off ++ (a.eval y).cells.toList ++ cur.toList.drop (off + (a.eval y).cells.toList.length)).toArray) := by
    simp only [execOp, ex, Sem.run_bind, Instr.storeAt, storeVar, Instr.sureAddr, Sem.run_pure, Result.andThen_ok, ti.run_size]
    have : ¬ (a.eval y).cells.size ≠ size := by
      rw [Array.length_toList] at vl;omega
    simp only [this, if_false, Sem.run_bind, Sem.run_pure, Result.andThen_ok];simp only [Nat.add_zero] at hst;rw [hst];simp
  unfold Oper.wp;rw [hrun]
  obtain ⟨s1, s2⟩ := hs.write (o' := { o with cells := Zfv o.cells off ds }) (cur' := (cur.toList.take off ++ (a.eval y).cells.toList ++ cur.toList.drop (off + (a.eval y).cells.toList.length)).toArray) ho hb hl c1 rfl rfl hl rfl
    (by simp only [Zfv, List.length_append, List.length_take, List.length_drop]; omega)
    (by simp only [List.size_toArray, List.length_append, List.length_take, List.length_drop, vl, Array.length_toList]; omega) (fun j d' hd' => by
      simp only [Zfv] at hd';simp only [List.getElem?_toArray];have hcl : cur.toList.length = cur.size := Array.length_toList;rw [List.append_assoc] at hd' ⊢
      by_cases h1 : j < off
      · rw [List.getElem?_append_left (by simp; omega), List.getElem?_take, if_pos h1] at hd'
        rw [List.getElem?_append_left (by simp; omega), List.getElem?_take, if_pos h1];obtain ⟨v, k1, k2⟩ := c3 j d' hd';exact ⟨v, by simpa using k1, k2⟩
      rw [List.getElem?_append_right (by simp; omega)] at hd';rw [List.getElem?_append_right (by simp; omega)]
      have e1 : (o.cells.take off).length = off := by simp; omega
      have e2 : (cur.toList.take off).length = off := by simp; omega
      rw [e1] at hd';rw [e2]
      by_cases h2 : j - off < ds.length
      · rw [List.getElem?_append_left h2] at hd'
        rw [List.getElem?_append_left (by rw [vl]; exact h2)];obtain ⟨v, k1, k2⟩ := Z2 v1 hd';exact ⟨v, k1, v2 v (List.mem_of_getElem? k1), k2⟩
      rw [List.getElem?_append_right (by omega), List.getElem?_drop] at hd';rw [List.getElem?_append_right (by rw [vl]; omega), List.getElem?_drop, vl]
      have e3 : off + ds.length + (j - off - ds.length) = j := by omega
      rw [e3] at hd' ⊢;obtain ⟨v, k1, k2⟩ := c3 j d' hd'
      exact ⟨v, by simpa using k1, k2⟩)
  exact ⟨undef, .tup [], _, μ, ⟨rfl, rfl⟩, rfl, s1, by simp only [VR]; exact ⟨[], rfl, by simp [VRs]⟩, s2⟩
end
theorem mapM_at {α β : Type} {f : α → Option β} : ∀ {l : List α} {r : List β} {j : Nat} {y : β}, l.mapM f = some r → r[j]? = some y → ∃ x, l[j]? = some x ∧ f x = some y
  | [], r, j, y, h, hy => by simp at h; subst h; simp at hy
  | a :: l, r, j, y, h, hy => by
    simp only [List.mapM_cons, Option.bind_eq_bind, Option.pure_def] at h
    cases ha : f a with
    | none => simp [ha] at h
    | some b =>
      cases hl : l.mapM f with
      | none => simp [ha, hl] at h
      | some bs =>
        simp [ha, hl] at h;subst h
        cases j with
        | zero => simp at hy; subst hy; exact ⟨a, rfl, ha⟩
        | succ j => simp only [List.getElem?_cons_succ] at hy ⊢; exact mapM_at hl hy
theorem SI.field {P : Program} {T : TypeId} {pl : List (Nat × Nat)} (si : SI P T pl) {f off sz : Nat} (hf : pl[f]? = some (off, sz)) : ∃ (fields : Array Field) (fl : Field) (i : TypeInfo), P.underlying T = some (.struct fields) ∧ fields[f]? = some fl ∧ P.info? fl.type = some i ∧ fl.offset = off ∧ i.size = sz := by
  obtain ⟨fields, h1, h2⟩ := si;obtain ⟨fl, k1, k2⟩ := mapM_at h2 hf
  cases hi : P.info? fl.type with
  | none => simp [hi] at k2
  | some i => simp [hi] at k2; exact ⟨fields, fl, i, h1, by simpa using k1, hi, k2.1, k2.2⟩
theorem Zib {P : Program} {w : World} {S : TypeId} {ad : Addr} {f off sz : Nat} {pl : List (Nat × Nat)} (si : SI P S pl) (hf : pl[f]? = some (off, sz)) (h0 : sz ≠ 0) : (Instr.fieldAt S (.pointer (some ad)) f).run P w = .ok (.pointer (some (ad.add off))) w := by
  obtain ⟨fields, fl, i, h1, h2, h3, rfl, rfl⟩ := si.field hf;unfold Instr.fieldAt;simp [run_underlying h1, h2, Instr.sureAddr, fieldPlace, sizeOf, typeInfo, h3, h0]
def SIC (C : Ctx) (T : TypeId) (pl : List (Nat × Nat)) : Prop := SI C.P T pl
def ZfK (place : Nat → Option (Nat × Nat)) (cells : List D) : List (Nat × D) → Option (List D)
  | [] => some cells
  | (i, d) :: rest =>
    match place i, Z7 d with
    | some (off, size), some ds => if ds.length = size ∧ off + ds.length ≤ cells.length then ZfK place (Zfv cells off ds) rest else none
    | _, _ => none
theorem ZkY {cs ds : List D} {off : Nat} (h : off + ds.length ≤ cs.length) : (Zfv cs off ds).length = cs.length := by
  simp only [Zfv, List.length_append, List.length_take, List.length_drop]; omega
theorem Zkj (off : Nat) : ∀ (vs : List Value) (k : Nat) (cs : Array Value), off + k + vs.length ≤ cs.size →
    ((vs.zipIdx k).foldl (fun (cs : Array Value) (p : Value × Nat) => cs.setIfInBounds (off + p.2) p.1) cs).size = cs.size ∧
    ∀ j, ((vs.zipIdx k).foldl (fun (cs : Array Value) (p : Value × Nat) => cs.setIfInBounds (off + p.2) p.1) cs)[j]? = if off + k ≤ j ∧ j < off + k + vs.length then vs[j - (off + k)]? else cs[j]?
  | [], k, cs, h => by simp; intro j h1 h2; omega
  | v :: vs, k, cs, h => by
    simp only [List.length_cons] at h;obtain ⟨h1, h2⟩ := Zkj off vs (k + 1) (cs.setIfInBounds (off + k) v) (by simp; omega);simp only [List.zipIdx_cons, List.foldl_cons];refine ⟨by rw [h1]; simp, fun j => ?_⟩;rw [h2 j]
    by_cases hj : j = off + k
    · subst hj
      rw [if_neg (by omega), if_pos (by simp)];simp only [Nat.sub_self, List.getElem?_cons_zero];rw [Array.getElem?_setIfInBounds_self_of_lt (by omega)]
    by_cases hr : off + (k + 1) ≤ j ∧ j < off + (k + 1) + vs.length
    · rw [if_pos hr, if_pos (by simp; omega)]
      have e : j - (off + k) = (j - (off + (k + 1))) + 1 := by omega
      rw [e, List.getElem?_cons_succ]
    rw [if_neg hr, if_neg (by simp; omega), Array.getElem?_setIfInBounds_ne (by omega)]
theorem setAt_get {cs ds : List D} {off : Nat} (h : off + ds.length ≤ cs.length) (j : Nat) : (Zfv cs off ds)[j]? = if off ≤ j ∧ j < off + ds.length then ds[j - off]? else cs[j]? := by
  simp only [Zfv]
  by_cases h1 : j < off
  · rw [if_neg (by omega), List.append_assoc, List.getElem?_append_left (by simp; omega), List.getElem?_take, if_pos h1]
  rw [List.append_assoc, List.getElem?_append_right (by simp; omega)]
  have e1 : (cs.take off).length = off := by simp; omega
  rw [e1]
  by_cases h2 : j < off + ds.length
  · rw [if_pos (by omega), List.getElem?_append_left (by omega)]
  rw [if_neg (by omega), List.getElem?_append_right (by omega), List.getElem?_drop]
  congr 1
  omega
theorem ZiB {w : World} {L : Nat → Prop} {μ : List Nat} {H : Heap} {place : Nat → Option (Nat × Nat)} : ∀ {ps : List (Nat × D)} {vs : List (Nat × Value)} {cs out : List D} {cells : Array Value},
    vs.map (·.1) = ps.map (·.1) → (∀ (j : Nat) (i : Nat) (d : D) (i' : Nat) (v : Value), ps[j]? = some (i, d) → vs[j]? = some (i', v) → VR w L μ H d v ∧ ∀ ds, Z7 d = some ds → ds.all (Zai H) = true) → VRs w L μ H cs cells.toList → ZfK place cs ps = some out →
    ∃ cells', Instr.fill place cells vs = some cells' ∧ VRs w L μ H out cells'.toList
  | [], vs, cs, out, cells, hm, _, hc, hf => by
    simp at hm;subst hm;simp only [ZfK] at hf
    injection hf with hf
    subst hf;exact ⟨cells, rfl, hc⟩
  | (i, d) :: ps, [], cs, out, cells, hm, _, _, _ => by simp at hm
  | (i, d) :: ps, (i', v) :: vs, cs, out, cells, hm, hv, hc, hf => by
    simp only [List.map_cons, List.cons.injEq] at hm;obtain ⟨e, hm⟩ := hm;subst e;obtain ⟨hv1, hv2⟩ := hv 0 i' d i' v rfl rfl;simp only [ZfK] at hf
    split at hf
    · rename_i off size ds hp hd
      split at hf
      · rename_i hlen
        obtain ⟨c1, _⟩ := Zbb hd (hv2 ds hd) hv1;have cl := ZJ c1;have csz := ZJ hc;simp only [Array.length_toList] at cl csz;have hfold := Zkj off v.cells.toList 0 cells (by simp; omega)
        have hn : VRs w L μ H (Zfv cs off ds) (v.cells.zipIdx.foldl (fun (cs : Array Value) (p : Value × Nat) => cs.setIfInBounds (off + p.2) p.1) cells).toList := by
          rw [← Array.foldl_toList, Array.toList_zipIdx]
          refine ZfE ?_ fun j d' v' h1 h2 => ?_
          · rw [ZkY (by omega)]; simp [hfold.1, csz]
          rw [setAt_get (by omega)] at h1;have h2' := h2;rw [Array.getElem?_toList, hfold.2 j] at h2';simp only [Nat.add_zero, Array.length_toList, cl] at h2'
          by_cases hj : off ≤ j ∧ j < off + ds.length
          · rw [if_pos hj] at h1 h2'
            obtain ⟨u, k1, k2⟩ := Z2 c1 h1;rw [h2'] at k1
            injection k1 with k1
            subst k1;exact k2
          rw [if_neg hj] at h1 h2';obtain ⟨u, k1, k2⟩ := Z2 hc h1;rw [Array.getElem?_toList, h2'] at k1
          injection k1 with k1
          subst k1;exact k2
        obtain ⟨cells', r1, r2⟩ := ZiB (vs := vs) hm (fun j i d i' v h1 h2 => hv (j + 1) i d i' v (by simpa using h1) (by simpa using h2)) hn hf;refine ⟨cells', ?_, r2⟩
        have n1 : ¬ (v.cells.size ≠ size ∨ off + v.cells.size > cells.size) := by omega
        simp only [Instr.fill, hp];rw [if_neg (by simpa using n1)];exact r1
      cases hf
    cases hf
section
variable {C : Ctx} {env : List D} {H : Heap} {dst : Option Tmp} {ty : TypeId} {pos : String} {aft : Array Edge} {gd : Option (Nat × Bool)} {x y z : Operand} {d : D}
variable {T e : TypeId} {desc descE : TypeDesc} {size bytes sizeE bytesE : Nat} {zero zeroE : Value}
theorem o_fldP {S : TypeId} {i off f o sz : Nat} {pl : List (Nat × Nat)} (si : SIC C S pl) (hf : pl[f]? = some (o, sz)) (h0 : sz ≠ 0) (hx : evO C env x = some (.ptr i off)) : OpQ C ⟨dst, .fieldAddr S x f, ty, pos, aft, gd⟩ env H (.ptr i (off + o)) :=
  OpQ.of_run fun L w μ a he => by
    have ex := he _ _ hx;simp only [VR] at ex;obtain ⟨b, hb, ex⟩ := ex;exact ⟨.pointer (some ⟨b, off + o, none⟩), by simp only [execOp, ex]; simp [Zib si hf h0, ZgZ], by simp only [VR]; exact ⟨b, hb, rfl⟩⟩
theorem o_fldS {S : TypeId} {f o sz : Nat} {cs : List D} {pl : List (Nat × Nat)} (si : SIC C S pl) (hf : pl[f]? = some (o, sz)) (h0 : sz ≠ 0) (hx : evO C env x = some (.sptr cs)) : OpQ C ⟨dst, .fieldAddr S x f, ty, pos, aft, gd⟩ env H (.sptr (cs.drop o)) :=
  OpQ.of_run fun L w μ a he => by
    have ex := he _ _ hx;simp only [VR] at ex;obtain ⟨ad, ex, h1, h2, hr⟩ := ex;exact ⟨.pointer (some (ad.add o)), by simp only [execOp, ex]; simp [Zib si hf h0], by simp only [VR]; exact ⟨_, rfl, by rw [ZcT]; exact h1, by rw [ZcT]; exact h2, Zg0 hr _⟩⟩
theorem ZiC {C : Ctx} {env : List D} : ∀ {parts : List (Nat × Operand)} {ps : List (Nat × D)}, (parts.mapM fun p => (evO C env p.2).map fun d => (p.1, d)) = some ps → ps.map (·.1) = parts.map (·.1) ∧ ∀ (j i : Nat) (d : D), ps[j]? = some (i, d) → ∃ x, parts[j]? = some (i, x) ∧ evO C env x = some d
  | [], ps, h => by simp at h; subst h; simp
  | (i, x) :: parts, ps, h => by
    simp only [List.mapM_cons, Option.bind_eq_bind, Option.pure_def] at h
    cases hx : evO C env x with
    | none => simp [hx] at h
    | some d =>
      cases hr : (parts.mapM fun p => (evO C env p.2).map fun d => (p.1, d)) with
      | none => simp [hx, hr] at h
      | some rest =>
        simp [hx, hr] at h;subst h;obtain ⟨h1, h2⟩ := ZiC hr;refine ⟨by simp [h1], fun j i' d' hj => ?_⟩
        cases j with
        | zero => simp at hj; obtain ⟨rfl, rfl⟩ := hj; exact ⟨x, rfl, hx⟩
        | succ j => simp only [List.getElem?_cons_succ] at hj ⊢; exact h2 j i' d' hj
def Zel (H : Heap) (ps : List (Nat × D)) : Bool := ps.all fun p => match Z7 p.2 with
  | some ds => ds.all (Zai H)
  | none => false
theorem ZgI {H : Heap} {ps : List (Nat × D)} (h : Zel H ps = true) {j i : Nat} {d : D} (hj : ps[j]? = some (i, d)) (ds : List D) (hd : Z7 d = some ds) : ds.all (Zai H) = true := by
  have := List.all_eq_true.1 h _ (List.mem_of_getElem? hj);simp only [hd] at this;exact this
theorem Znb {pl : List (Nat × Nat)} {zs cs : List D} {parts : List (Nat × Operand)} {ps : List (Nat × D)} (ti : TIC C T desc size bytes zero) (si : SIC C T pl) (hz : Zas zero = some (.agg zs)) (hps : (parts.mapM fun p => (evO C env p.2).map fun d => (p.1, d)) = some ps) (hk : Zel H ps = true) (hf : ZfK (pl[·]?) zs ps = some cs) :
    OpQ C ⟨dst, .build T parts.toArray, ty, pos, aft, gd⟩ env H (.agg cs) := by
  refine ZnE fun L0 w μ a hs he => ?_
  obtain ⟨e1, e2⟩ := ZiC hps;have hzv := ZaZ (w := w) (L := forb L0 μ H) (μ := μ) (H := H) hz;simp only [VR] at hzv;obtain ⟨zvs, hz1, hz2⟩ := hzv
  obtain ⟨cells, r1, r2⟩ := ZiB (w := w) (L := forb L0 μ H) (μ := μ) (H := H) (place := (pl[·]?)) (ps := ps) (vs := parts.map fun p => (p.1, a.eval p.2)) (cells := zvs.toArray) (by simp [e1, Function.comp_def]) (fun j i d i' v h1 h2 => by
    obtain ⟨x, k1, k2⟩ := e2 j i d h1;simp only [List.getElem?_map, k1, Option.map_some, Option.some.injEq, Prod.mk.injEq] at h2;obtain ⟨rfl, rfl⟩ := h2
    exact ⟨he _ _ k2, fun ds hd => ZgI hk h1 ds hd⟩) (by simpa using hz2) hf
  obtain ⟨fields, f1, f2⟩ := si;obtain ⟨i, i1, i2, i3, i4⟩ := ti.infos
  have hb : C.P.built T (parts.map fun p => (p.1, a.eval p.2)) = some cells := by
    unfold Program.built;simp only [i1, f1, i4, f2, hz1, Value.cells]
    simpa using r1
  have hr := run_build (P := C.P) w T (parts.map fun p => (p.1, a.eval p.2)).toArray cells (by simpa using hb);refine ⟨.agg cells, ?_, by simp only [VR]; exact ⟨cells.toList, by simp, r2⟩⟩;simp only [execOp]
  have hm : (parts.toArray.map fun p => (p.1, a.eval p.2)) = (parts.map fun p => (p.1, a.eval p.2)).toArray := by simp
  simp only [hm, Sem.run_bind, hr, Result.andThen_ok, Sem.run_pure]
theorem Zga (f : Nat → Value) : (Array.range 0).map f = #[] := by
  apply Array.ext';simp
theorem ZfL {α : Type} {zs : List α} (hz : 0 < zs.length) : ∀ (n j : Nat), j < n * zs.length → (List.flatten (List.replicate n zs))[j]? = zs[j % zs.length]?
  | 0, j, h => by omega
  | n + 1, j, h => by
    rw [List.replicate_succ, List.flatten_cons]
    by_cases hj : j < zs.length
    · rw [List.getElem?_append_left hj, Nat.mod_eq_of_lt hj]
    rw [List.getElem?_append_right (by omega), ZfL hz n (j - zs.length) (by rw [Nat.succ_mul] at h; omega)];rw [Nat.mod_eq_sub_mod (by omega : j ≥ zs.length)]
theorem Zic {α : Type} {zs : List α} (n : Nat) : (List.flatten (List.replicate n zs)).length = n * zs.length := by
  simp
theorem Zkz {n : Nat} {zs cs : List D} {dz : D} {parts : List (Nat × Operand)} {ps : List (Nat × D)} (ht : UN C T (.slice e)) (te : TIC C e descE sizeE bytesE zeroE) (hz : Zas zeroE = some dz) (hzs : Z7 dz = some zs) (hzk : zs.all (Zai H) = true) (hzl : zs.length = sizeE)
    (hps : (parts.mapM fun p => (evO C env p.2).map fun d => (p.1, d)) = some ps) (hk : Zel H ps = true) (hf : ZfK (fun i => some (i * sizeE, sizeE)) (List.flatten (List.replicate n zs)) ps = some cs) (hck : cs.all (Zai H) = true) (hcl : cs.length = n * sizeE) (hn : n * sizeE ≤ 16777216) (h0 : 0 < sizeE) :
    OpH C ⟨dst, .buildSlice T n parts.toArray, ty, pos, aft, gd⟩ env H (fun d H' => d = .row H.length n ∧ H' = H ++ [some ⟨cs, e, sizeE, true, none⟩]) (fun _ _ => False) :=
  ZnV (ob := ⟨cs, e, sizeE, true, none⟩) fun L0 w μ a hs he => by
    obtain ⟨e1, e2⟩ := ZiC hps;obtain ⟨z1, _⟩ := Zbb (w := w) (L := forb L0 μ H) (μ := μ) (H := H) hzs hzk (ZaZ hz);have zl := ZJ z1;rw [Array.length_toList] at zl;obtain ⟨i, i1, i2, i3, i4⟩ := te.infos
    have hbase : VRs w (forb L0 μ H) μ H (List.flatten (List.replicate n zs)) ((Array.range (n * sizeE)).map (fun j => zeroE.cells[j % zeroE.cells.size]!)).toList := by
      refine ZfE (by simp [hzl]) fun j d v h1 h2 => ?_
      have hj : j < n * zs.length := by rw [← Zic]; exact (List.getElem?_eq_some_iff.1 h1).1
      rw [ZfL (by omega) n j hj] at h1;obtain ⟨u, k1, k2⟩ := Z2 z1 h1
      have h2' : zeroE.cells[j % zeroE.cells.size]! = v := by
        simp only [Array.toList_map, Array.toList_range, List.getElem?_map] at h2;rw [List.getElem?_range (by rw [← hzl]; exact hj)] at h2
        simpa using h2
      have k1' : zeroE.cells[j % zs.length]? = some u := by simpa using k1
      rw [zl] at h2';rw [getElem!_def, k1'] at h2';simp only at h2';subst h2';exact k2
    obtain ⟨cells, r1, r2⟩ := ZiB (w := w) (L := forb L0 μ H) (μ := μ) (H := H) (place := fun i => some (i * sizeE, sizeE)) (ps := ps) (vs := parts.map fun p => (p.1, a.eval p.2)) (cells := (Array.range (n * sizeE)).map (fun j => zeroE.cells[j % zeroE.cells.size]!)) (by simp [e1, Function.comp_def]) (fun j i d i' v h1 h2 => by
      obtain ⟨x, k1, k2⟩ := e2 j i d h1;simp only [List.getElem?_map, k1, Option.map_some, Option.some.injEq, Prod.mk.injEq] at h2;obtain ⟨rfl, rfl⟩ := h2
      exact ⟨he _ _ k2, fun ds hd => ZgI hk h1 ds hd⟩) hbase hf
    have rl := ZJ r2;rw [Array.length_toList] at rl;refine ⟨.slice (some ⟨w.heap.size, 0, none⟩) n n, cells, ?_, by simp only []; omega, fun j d hd => ?_, fun _ hl => ?_⟩
    · have hm : (parts.toArray.map fun p => (p.1, a.eval p.2)) = (parts.map fun p => (p.1, a.eval p.2)).toArray := by simp
      have n1 : ¬ (n * sizeE > 2 ^ 24) := by omega
      simp only [execOp, hm, Instr.buildSlice, Sem.run_bind, run_underlying ht, Result.andThen_ok, te.run_size, n1, if_false, Sem.run_pure]
      by_cases hn0 : n * sizeE = 0
      · simp only [hn0, if_true, Sem.run_pure, Result.andThen_ok]
        rw [hn0] at r1
        have r1' : Instr.fill (fun i => some (i * sizeE, sizeE)) ((Array.range 0).map (fun j => (#[] : Array Value)[j % (#[] : Array Value).size]!)) (parts.map fun p => (p.1, a.eval p.2)) = some cells := by
          rw [← r1, Zga, Zga]
        simp only [r1', newRow, Sem.run_bind, run_newObj_alloc, Result.andThen_ok, Sem.run_pure]
      simp only [hn0, if_false, Sem.run_bind, te.run_zero, Result.andThen_ok, Sem.run_pure];simp only [r1, newRow, Sem.run_bind, run_newObj_alloc, Result.andThen_ok, Sem.run_pure]
    · obtain ⟨v, k1, k2⟩ := Z2 r2 hd
      refine ⟨v, by simpa using k1, Zd7 (List.all_eq_true.1 hck _ (List.mem_of_getElem? hd)) k2, k2⟩
    simp only [VR];refine ⟨some ⟨cs, e, sizeE, true, none⟩, by simp, fun o' e' => ?_⟩
    injection e' with e'
    subst e';have hnm : n ≤ 16777216 := Nat.le_trans (Nat.le_mul_of_pos_right n h0) hn;exact ⟨w.heap.size, n, _, hl, rfl, Nat.le_refl _, by unfold maxLen; omega, heap_alloc_new w _, by simp only []; omega, by simp only []; omega⟩
end
def frz (H : Heap) : List Nat → Heap
  | [] => H
  | i :: is => frz (match H[i]? with | some (some o) => H.set i (some { o with live := false }) | _ => H) is
theorem HWeak.trans {H1 H2 H3 : Heap} (h : HWeak H1 H2) (k : HWeak H2 H3) : HWeak H1 H3 := by
  refine ⟨k.1.trans h.1, fun i x hx => ?_⟩;obtain ⟨x2, a1, a2⟩ := h.2 i x hx;obtain ⟨x3, b1, b2⟩ := k.2 i x2 a1;refine ⟨x3, b1, fun o' e => ?_⟩;obtain ⟨o2, e2, c1, c2, c3, c5, c4⟩ := b2 o' e;obtain ⟨o1, e1, d1, d2, d3, d5, d4⟩ := a2 o2 e2;exact ⟨o1, e1, c1.trans d1, c2.trans d2, c3.trans d3, c5.trans d5, fun h => d4 (c4 h)⟩
theorem HWeak.one {H : Heap} {i : Nat} {o : AObj} (ho : H[i]? = some (some o)) : HWeak H (H.set i (some { o with live := false })) := by
  have hi : i < H.length := (List.getElem?_eq_some_iff.1 ho).1;refine ⟨by simp, fun j x hx => ?_⟩
  by_cases hj : i = j
  · subst hj
    rw [ho] at hx
    injection hx with hx
    exact ⟨some { o with live := false }, by simp [hi], fun o' e => by injection e with e; subst e; exact ⟨o, hx.symm, rfl, rfl, rfl, rfl, fun h => by cases h⟩⟩
  exact ⟨x, by rw [List.getElem?_set_ne hj]; exact hx, fun o' e => ⟨o', e, rfl, rfl, rfl, rfl, fun h => h⟩⟩
theorem HWeak.frz : ∀ {ids : List Nat} {H : Heap}, HWeak H (frz H ids)
  | [], H => HWeak.refl H
  | i :: is, H => by
    simp only [Go.V.frz]
    split
    · rename_i o ho; exact (HWeak.one ho).trans HWeak.frz
    exact HWeak.frz
theorem ZfM : ∀ {ids : List Nat} {H : Heap} {i : Nat} {o : AObj}, i ∈ ids → H[i]? = some (some o) → (frz H ids)[i]? = some (some { o with live := false })
  | [], _, _, _, h, _ => by simp at h
  | j :: js, H, i, o, h, ho => by
    have keep : ∀ (ids : List Nat) (H : Heap) (i : Nat) (o : AObj), o.live = false → H[i]? = some (some o) → (frz H ids)[i]? = some (some o) := by
      intro ids
      induction ids with
      | nil => intro H i o _ ho; exact ho
      | cons k ks ih =>
        intro H i o hl ho;simp only [frz]
        split
        · rename_i o2 ho2
          refine ih _ i o hl ?_
          by_cases e : k = i
          · subst e
            rw [ho] at ho2
            injection ho2 with ho2
            injection ho2 with ho2
            subst ho2;have : k < H.length := (List.getElem?_eq_some_iff.1 ho).1;simp only [List.getElem?_set_self this];cases o;simp only at hl;subst hl;rfl
          rw [List.getElem?_set_ne e]; exact ho
        exact ih _ i o hl ho
    simp only [frz]
    by_cases e : i = j
    · subst e
      simp only [ho];have : i < H.length := (List.getElem?_eq_some_iff.1 ho).1;exact keep js _ i _ rfl (by simp [this])
    have hi : i ∈ js := by
      rcases List.mem_cons.1 h with h | h
      · exact (e h).elim
      exact h
    split
    · rename_i o2 ho2
      exact ZfM hi (by rw [List.getElem?_set_ne (fun h => e h.symm)]; exact ho)
    exact ZfM hi ho
mutual
inductive Fz (H : Heap) : D → D → List Nat → Prop
  | nil : Fz H .nilsl (.sl 0 []) []
  | row {id n : Nat} {o : AObj} : H[id]? = some (some o) → D.pure.pures o.cells = true → Fz H (.row id n) (.sl n o.cells) [id]
  | map {id : Nat} {es : List (D × D)} {o : AObj} : H[id]? = some (some o) → o.sp = some (.map es) → D.pure.pures (es.map (·.1)) = true → D.pure.pures (es.map (·.2)) = true → Fz H (.mapp id) (.mapv (es.map (·.1)) (es.map (·.2))) [id]
  | agg {cs cs' : List D} {ids : List Nat} : FzL H cs cs' ids → Fz H (.agg cs) (.agg cs') ids
  | tup {cs cs' : List D} {ids : List Nat} : FzL H cs cs' ids → Fz H (.tup cs) (.tup cs') ids
  | iface {t : TypeId} {d d' : D} {ids : List Nat} : Fz H d d' ids → Fz H (.iface t d) (.iface t d') ids
  | same (d : D) : Fz H d d []
inductive FzL (H : Heap) : List D → List D → List Nat → Prop
  | nil : FzL H [] [] []
  | cons {d d' : D} {ds ds' : List D} {ids ids' : List Nat} : Fz H d d' ids → FzL H ds ds' ids' → FzL H (d :: ds) (d' :: ds') (ids ++ ids')
end
mutual
theorem Fz.ok {C : Ctx} {L0 : Nat → Prop} {w : World} {μ : List Nat} {H H' : Heap} (hs : SR C L0 w μ H') : ∀ {d d' : D} {ids : List Nat} {v : Value}, Fz H d d' ids → (∀ i ∈ ids, ∀ o : AObj, H[i]? = some (some o) → H'[i]? = some (some { o with live := false })) →
    VR w (forb L0 μ H') μ H' d v → VR w (forb L0 μ H') μ H' d' v
  | _, _, _, v, .nil, _, hv => by
    simp only [VR] at hv ⊢;exact ⟨none, 0, hv, Nat.le_refl _, Nat.zero_le _, fun h => (h rfl).elim⟩
  | _, _, _, v, .row (id := id) (n := n) (o := o) ho hp, hid, hv => by
    have h1 := hid id (by simp) o ho;simp only [VR] at hv ⊢;obtain ⟨x, hx, h2⟩ := hv;rw [h1] at hx
    injection hx with hx
    obtain ⟨b, cap, cur, k1, k2, k3, k4, k5, k6, k7⟩ := h2 _ hx.symm;refine ⟨some ⟨b, 0, none⟩, cap, k2, k3, k4, fun _ => ⟨⟨b, 0, none⟩, rfl, hs.block_lt h1 k1, ?_, Zfa fun j d hd => ?_⟩⟩
    · rintro (hL | ⟨i, oi, m1, m2, m3⟩)
      · exact hs.own _ _ _ h1 k1 hL
      have := hs.inj i id oi _ b m1 h1 m3 k1 m2;subst this;rw [h1] at m1
      injection m1 with m1
      injection m1 with m1
      subst m1;cases m2
    obtain ⟨v', c1, c2, c3⟩ := hs.cell h1 k1 hd
    have hpd : d.pure = true := by
      have key : ∀ (l : List D) (j : Nat), D.pure.pures l = true → l[j]? = some d → d.pure = true := by
        intro l
        induction l with
        | nil => intro j _ h; simp at h
        | cons c l ih =>
          intro j h hj;simp only [D.pure.pures, Bool.and_eq_true] at h
          cases j with
          | zero => simp at hj; subst hj; exact h.1
          | succ j => simp only [List.getElem?_cons_succ] at hj; exact ih j h.2 hj
      exact key o.cells j hp hd
    exact ⟨v', by rw [Nat.zero_add, Zek]; exact c1, c2, VR.drop hpd c3⟩
  | _, _, _, v, .map (id := id) (es := es) (o := o) ho hsp hp1 hp2, hid, hv => by
    have h1 := hid id (by simp) o ho;simp only [VR] at hv ⊢;obtain ⟨b, k1, k2⟩ := hv;obtain ⟨_, a, clock, m1, m2, m3⟩ := (hs.obj id _ b h1 k1).spec hsp;refine ⟨b, a, clock, k2, hs.block_lt h1 k1, ?_, m1, a.toList, List.Perm.refl _, VRs.drop hp1 m2, VRs.drop hp2 m3⟩;rintro (hL | ⟨i, oi, q1, q2, q3⟩)
    · exact hs.own _ _ _ h1 k1 hL
    have := hs.inj i id oi _ b q1 h1 q3 k1 q2;subst this;rw [h1] at q1
    injection q1 with q1
    injection q1 with q1
    subst q1;cases q2
  | _, _, _, v, .agg h, hid, hv => by
    simp only [VR] at hv ⊢;obtain ⟨vs, h1, h2⟩ := hv;exact ⟨vs, h1, FzL.ok hs h hid h2⟩
  | _, _, _, v, .tup h, hid, hv => by
    simp only [VR] at hv ⊢;obtain ⟨vs, h1, h2⟩ := hv;exact ⟨vs, h1, FzL.ok hs h hid h2⟩
  | _, _, _, v, .iface h, hid, hv => by
    simp only [VR] at hv ⊢;obtain ⟨u, h1, h2⟩ := hv;exact ⟨u, h1, Fz.ok hs h hid h2⟩
  | _, _, _, v, .same d, _, hv => hv
theorem FzL.ok {C : Ctx} {L0 : Nat → Prop} {w : World} {μ : List Nat} {H H' : Heap} (hs : SR C L0 w μ H') : ∀ {ds ds' : List D} {ids : List Nat} {vs : List Value}, FzL H ds ds' ids → (∀ i ∈ ids, ∀ o : AObj, H[i]? = some (some o) → H'[i]? = some (some { o with live := false })) →
    VRs w (forb L0 μ H') μ H' ds vs → VRs w (forb L0 μ H') μ H' ds' vs
  | _, _, _, vs, .nil, _, hv => hv
  | _, _, _, vs, .cons h1 h2, hid, hv => by
    simp only [VRs] at hv ⊢;obtain ⟨v, us, e, k1, k2⟩ := hv;exact ⟨v, us, e, Fz.ok hs h1 (fun i hi => hid i (List.mem_append_left _ hi)) k1, FzL.ok hs h2 (fun i hi => hid i (List.mem_append_right _ hi)) k2⟩
end
theorem Zbt {w : World} {L : Nat → Prop} {μ : List Nat} {H : Heap} : ∀ {ds es : List D} {vs us : List Value}, VRs w L μ H ds vs → VRs w L μ H es us → VRs w L μ H (ds ++ es) (vs ++ us)
  | [], es, vs, us, h, k => by simp only [VRs] at h; subst h; exact k
  | d :: ds, es, vs, us, h, k => by
    simp only [VRs] at h;obtain ⟨v, vs', rfl, h1, h2⟩ := h;simp only [List.cons_append, VRs];exact ⟨v, vs' ++ us, rfl, h1, Zbt h2 k⟩
section
variable {C : Ctx} {env : List D} {H : Heap} {dst : Option Tmp} {ty : TypeId} {pos : String} {aft : Array Edge} {gd : Option (Nat × Bool)} {x y z : Operand} {d : D}
theorem ZhN {f : FuncId} {caps ds ds' : List D} {ids : List Nat} {args : List Operand} {tys : Array TypeId} {R : Out → Heap → Prop} (hx : evO C env x = some (.clos f caps)) (ha : evOs C env args = some ds) (hz : FzL H (ds ++ caps) ds' ids) (hc : HC C f (frz H ids) ds' R) :
    OpH C ⟨dst, .call ⟨.value x, args.toArray, tys⟩, ty, pos, aft, gd⟩ env H (fun d H' => R (.ret d) H') (fun d H' => R (.pan d) H') := by
  refine ⟨fun L0 w μ a hs hv => ?_⟩;have ex := Zap hs hv hx;have ea := Zfc hs hv ha;simp only [VR] at ex;obtain ⟨cvs, ex, ec⟩ := ex;obtain ⟨hs', he'⟩ := hs.weak (HWeak.frz (ids := ids));have st := he'.step L0;have hargs := FzL.ok hs' hz (fun i hi o ho => ZfM hi ho) (VRs.step st (Zbt ea ec));have hcall := hc.2 L0 w μ _ hs' hargs
  have hrun : (execOp a.eval ⟨dst, .call ⟨.value x, args.toArray, tys⟩, ty, pos, aft, gd⟩).run C.P w = .ok (.enter f (args.map a.eval ++ cvs).toArray) w := by
    have h1 : (args.toArray.map a.eval) = (args.map a.eval).toArray := by simp
    simp only [execOp, resolve, h1, ex, Deferred.ofValue, Sem.run_bind, Sem.run_pure, Result.andThen_ok, invoke]
    have h2 : (#[] ++ (args.map a.eval).toArray ++ cvs.toArray : Array Value) = (args.map a.eval ++ cvs).toArray := by simp
    rw [h2];exact hc.1 _ _
  unfold Oper.wp;rw [hrun]
  refine hcall.mono fun e w' hf => ?_
  obtain ⟨o, H1, μ1, hR, s1, hO, e1⟩ := hf
  cases o with
  | ret d =>
    obtain ⟨v, rfl, hd⟩ := hO;exact ⟨v, d, H1, μ1, hR, rfl, s1, hd, he'.trans e1⟩
  | pan d =>
    obtain ⟨v, rfl, hd⟩ := hO;exact ⟨v, d, H1, μ1, rfl, rfl, hR, s1, hd, he'.trans e1⟩
end
def PC (C : Ctx) (f : FuncId) (args : List D) (r : Out → Prop) : Prop := ∀ H : Heap, HC C f H args (fun o H' => H' = H ∧ r o)
theorem PC.mono {C : Ctx} {f : FuncId} {args : List D} {r r' : Out → Prop} (h : PC C f args r) (hr : ∀ o, r o → r' o) : PC C f args r' :=
  fun H => (h H).mono fun o H' ⟨h1, h2⟩ => ⟨h1, hr o h2⟩
def Out.pure : Out → Bool
  | .ret d => d.pure
  | .pan d => d.pure
theorem Step.shrink {w : World} {L L' : Nat → Prop} (h : ∀ b, L' b → L b) : Step w w L L' [] [] [] [] :=
  ⟨Nat.le_refl _, fun _ _ _ => rfl, fun b _ hb hb' => hb (h b hb'), fun _ _ h => h, HStep.nil _ _ _⟩
theorem Zn0 {C : Ctx} {f : FuncId} {args : List D} {r : Out → Prop} (h : HC C f [] args (fun o _ => o.pure = true ∧ r o)) (hp : D.pure.pures args = true) : PC C f args r := by
  intro H;refine ⟨h.1, fun L0 w μ vs hs ha => ?_⟩
  have hf : ∀ b, forb (forb L0 μ H) [] [] b ↔ forb L0 μ H b := fun b => ⟨fun h => h.elim id (fun ⟨i, o, h1, _⟩ => by simp at h1), .inl⟩
  have s0 : SR C (forb L0 μ H) w [] [] := by
    refine ⟨rfl, fun i o b h => by simp at h, fun i j oi oj b h => by simp at h, fun i o b h => by simp at h, fun b hb => hs.forb_lt hb, fun g cs hg => ?_⟩;obtain ⟨h1, h2, h3⟩ := hs.glob g cs hg;exact ⟨h1, fun h => h2 ((hf g).1 h), GR.step (Step.shrink fun b hb => (hf b).1 hb) h1 h2 h3⟩
  have a0 : VRs w (forb (forb L0 μ H) [] []) [] [] args vs := VRs.step (Step.shrink fun b hb => (hf b).1 hb) (VRs.drop hp ha)
  refine (h.2 _ w [] vs s0 a0).mono fun e w' hfin => ?_
  obtain ⟨o, H1, μ1, ⟨hpo, hr⟩, s1, hO, e1⟩ := hfin
  have hun : ∀ b, b < w.heap.size → w'.heap[b]? = w.heap[b]? := fun b hb => e1.chg b hb (fun ⟨i, o, h1, _⟩ => by simp at h1)
  have evo : Evo w w' μ μ H H := by
    refine ⟨e1.os, e1.tape, e1.output, e1.size, fun b hb _ => hun b hb, fun _ _ h => h, fun _ _ h => h, fun i x hx => ⟨x, hx, fun o' e => ⟨o', e, rfl, rfl, rfl, fun b cur hb hw => ⟨cur, ?_, rfl⟩⟩⟩⟩;rw [hun b (Array.getElem?_eq_some_iff.1 hw).1]; exact hw
  refine ⟨o, H, μ, ⟨rfl, hr⟩, hs.next evo hs.len (fun i o b h1 h2 => ?_) hs.inj hs.own, ?_, evo⟩
  · exact (hs.obj i o b h1 h2).same (hun b (hs.block_lt h1 h2))
  have hsh : ∀ {d : D} {v : Value}, d.pure = true → VR w' (forb (forb L0 μ H) μ1 H1) μ1 H1 d v → VR w' (forb L0 μ H) μ H d v := fun hd hv =>
    VR.lift (VR.step (Step.shrink fun b hb => .inl hb) (VR.drop hd hv))
  cases o with
  | ret d => obtain ⟨v, h1, h2⟩ := hO; exact ⟨v, h1, hsh hpo h2⟩
  | pan d => obtain ⟨v, h1, h2⟩ := hO; exact ⟨v, h1, hsh hpo h2⟩
inductive AMode where
  | returning
  | panicking (d : D)
  | recovered (d : D)
def ModeR (w : World) (L : Nat → Prop) (μ : List Nat) (H : Heap) : AMode → FrameMode → Prop
  | .returning, u => u = .returning
  | .panicking d, u => ∃ v, u = .panicking (pan1 v) ∧ VR w L μ H d v
  | .recovered d, u => ∃ v, u = .panicking [{ v := v, recovered := true }] ∧ VR w L μ H d v
def DC (C : Ctx) (f : FuncId) (H : Heap) (args : List D) (m : AMode) (R : AMode → Heap → Prop) : Prop :=
  Enters C.P f ∧ ∀ (L0 : Nat → Prop) (w : World) (μ : List Nat) (vs : List Value) (u : FrameMode), SR C L0 w μ H → VRs w (forb L0 μ H) μ H args vs → ModeR w (forb L0 μ H) μ H m u →
    CallsD C.P f vs.toArray u w fun e u' w' => ∃ v m' H' μ', e = .returned v ∧ R m' H' ∧ SR C L0 w' μ' H' ∧ ModeR w' (forb L0 μ' H') μ' H' m' u' ∧ Evo w w' μ μ' H H'
inductive ResR (C : Ctx) (env : List D) (H : Heap) : List ResultVar → List D → Prop
  | nil : ResR C env H [] []
  | tmp {t : Tmp} {d : D} {rs : List ResultVar} {ds : List D} : env[t]? = some d → ResR C env H rs ds → ResR C env H (.tmp t :: rs) (d :: ds)
  | one {p : Tmp} {T : TypeId} {i off size bytes : Nat} {desc : TypeDesc} {zero : Value} {o : AObj} {d : D} {rs : List ResultVar} {ds : List D} : env[p]? = some (.ptr i off) → TIC C T desc size bytes zero → aggD desc = false → H[i]? = some (some o) → o.cells[off]? = some d → ResR C env H rs ds → ResR C env H (.cell p T :: rs) (d :: ds)
  | agg {p : Tmp} {T : TypeId} {i off size bytes : Nat} {desc : TypeDesc} {zero : Value} {o : AObj} {cs : List D} {rs : List ResultVar} {ds : List D} : env[p]? = some (.ptr i off) → TIC C T desc size bytes zero → aggD desc = true → H[i]? = some (some o) → (o.cells.drop off).take size = cs → cs.length = size → ResR C env H rs ds → ResR C env H (.cell p T :: rs) (.agg cs :: ds)
def resF (tmps : Array Value) : ResultVar → Sem Value
  | .tmp t => pure (tmps.getD t undef)
  | .cell a t => do loadVar t (← asAddr (tmps.getD a undef))
def tupD : List D → D
  | [d] => d
  | ds => .tup ds
theorem ResR.run {C : Ctx} {L0 : Nat → Prop} {w : World} {μ : List Nat} {env : List D} {H : Heap} (hs : SR C L0 w μ H) {tmps : Array Value} (hv : VRs w (forb L0 μ H) μ H env tmps.toList) : ∀ {rs : List ResultVar} {ds : List D}, ResR C env H rs ds →
    ∃ vs : List Value, (rs.mapM (resF tmps)).run C.P w = .ok vs w ∧ VRs w (forb L0 μ H) μ H ds vs
  | _, _, .nil => ⟨[], by simp, by simp [VRs]⟩
  | _, _, .tmp (t := t) (d := d) h r => by
    obtain ⟨vs, h1, h2⟩ := ResR.run hs hv r;obtain ⟨v, k1, k2⟩ := Z2 hv h;refine ⟨v :: vs, ?_, by simp only [VRs]; exact ⟨v, vs, rfl, k2, h2⟩⟩;simp only [List.mapM_cons, resF, Sem.run_bind, Sem.run_pure, Result.andThen_ok, Zch k1];rw [h1];rfl
  | _, _, .one (p := p) (T := T) (i := i) (off := off) h ti ha ho hd r => by
    obtain ⟨vs, h1, h2⟩ := ResR.run hs hv r;obtain ⟨v, k1, k2⟩ := Z2 hv h;simp only [VR] at k2;obtain ⟨b, hb, rfl⟩ := k2;obtain ⟨u, c1, _, c3⟩ := hs.cell ho hb hd;refine ⟨u :: vs, ?_, by simp only [VRs]; exact ⟨u, vs, rfl, c3, h2⟩⟩;simp only [List.mapM_cons, resF, Sem.run_bind, Zch k1, asAddr, Sem.run_pure, Result.andThen_ok, ZdE ti ha c1];rw [h1];rfl
  | _, _, .agg (p := p) (T := T) (i := i) (off := off) (cs := cs) h ti ha ho hd hl r => by
    obtain ⟨vs, h1, h2⟩ := ResR.run hs hv r;obtain ⟨v, k1, k2⟩ := Z2 hv h;simp only [VR] at k2;obtain ⟨b, hb, rfl⟩ := k2
    obtain ⟨us, r1, r2⟩ := Zc2 (P := C.P) (w := w) (L := forb L0 μ H) (μ := μ) (H := H) (ad := ⟨b, off, none⟩) (cs := cs) (fun j d' hd' => by
      subst hd;rw [List.getElem?_take] at hd'
      split at hd'
      · rw [List.getElem?_drop] at hd'
        obtain ⟨v, k1, _, k3⟩ := hs.cell ho hb hd';exact ⟨v, by rw [ZgZ]; exact k1, k3⟩
      cases hd')
    rw [hl] at r1;refine ⟨.agg us.toArray :: vs, ?_, by simp only [VRs]; exact ⟨_, vs, rfl, by simp only [VR]; exact ⟨us, rfl, r2⟩, h2⟩⟩;simp only [List.mapM_cons, resF, Sem.run_bind, Zch k1, asAddr, Sem.run_pure, Result.andThen_ok, ZdF ti ha r1];rw [h1];rfl
theorem ZgJ {C : Ctx} {L0 : Nat → Prop} {w : World} {μ : List Nat} {env : List D} {H : Heap} (hs : SR C L0 w μ H) {tmps : Array Value} (hv : VRs w (forb L0 μ H) μ H env tmps.toList) {fn : Func} {ds : List D} (h : ResR C env H fn.results.toList ds) :
    ∃ v, (results fn tmps).run C.P w = .ok v w ∧ VR w (forb L0 μ H) μ H (tupD ds) v := by
  obtain ⟨vs, h1, h2⟩ := h.run hs hv
  have hm : (fn.results.mapM (resF tmps)).run C.P w = .ok vs.toArray w := by
    rw [Array.mapM_eq_mapM_toList];simp only [Sem.run_map];rw [h1];rfl
  have hl := ZJ h2
  have hres : results fn tmps = (do let vs ← fn.results.mapM (resF tmps); pure (if h : vs.size = 1 then vs[0] else .tuple vs)) := by
    unfold results
    congr 1
  rw [hres];simp only [Sem.run_bind];rw [hm];simp only [Result.andThen_ok, Sem.run_pure]
  match ds, vs, hl, h2 with
  | [d], [v], _, h2 =>
    refine ⟨v, by simp, ?_⟩;simp only [VRs] at h2;obtain ⟨v', us, e, k, _⟩ := h2
    injection e with e
    subst e;exact k
  | [], [], _, h2 =>
    refine ⟨.tuple #[], by simp, ?_⟩;simp only [tupD, VR];exact ⟨[], rfl, by simp [VRs]⟩
  | d :: d2 :: ds, v :: v2 :: vs, hl, h2 =>
    refine ⟨.tuple (v :: v2 :: vs).toArray, by simp, ?_⟩;simp only [tupD, VR];exact ⟨_, rfl, h2⟩
def setA : AMode → AMode
  | .recovered _ => .returning
  | m => m
def QEnd (C : Ctx) (rs : List ResultVar) (R : Out → Heap → Prop) (env : List D) : List ADef → AMode → Heap → Prop
  | [], .returning, H => ∃ ds ds' ids, ResR C env H rs ds ∧ FzL H ds ds' ids ∧ R (.ret (tupD ds')) (frz H ids)
  | [], .panicking d, H => ∃ d' ids, Fz H d d' ids ∧ R (.pan d') (frz H ids)
  | [], .recovered _, _ => False
  | .fn g asZ :: df, m, H => DC C g H asZ m (fun m' H' => QEnd C rs R env df (setA m') H')
  | .col id :: df, m, H => (∃ o, H[id]? = some (some o) ∧ o.live = true ∧ o.sp = some .defs) ∧ QEnd C rs R env df m (H.set id none)
def QFin (C : Ctx) (rs : List ResultVar) (R : Out → Heap → Prop) : Post := ⟨none, fun x env H df =>
  match x with
  | .ret => QEnd C rs R env df .returning H
  | .norm => QEnd C rs R env df .returning H
  | .pan d => QEnd C rs R env df (.panicking d) H
  | .exit _ => False⟩
theorem Fz.tup_of {H : Heap} {ds ds' : List D} {ids : List Nat} (h : FzL H ds ds' ids) : Fz H (tupD ds) (tupD ds') ids := by
  cases h with
  | nil => exact .same _
  | cons h1 h2 =>
    cases h2 with
    | nil => simp only [tupD, List.append_nil]; exact h1
    | cons h3 h4 => exact .tup (.cons h1 (.cons h3 h4))
theorem Fin.freeze {C : Ctx} {L0 : Nat → Prop} {w0 w : World} {μ0 μ : List Nat} {H0 H : Heap} {R : Out → Heap → Prop} {d d' : D} {ids : List Nat} {v : Value} {mk : D → Out} {e : Ending} (hmk : ∀ (L : Nat → Prop) (μ : List Nat) (H : Heap), VR w L μ H d' v → OutR w L μ H (mk d') e) (hs : SR C L0 w μ H) (hv : VR w (forb L0 μ H) μ H d v) (hz : Fz H d d' ids) (hR : R (mk d') (frz H ids)) (he : Evo w0 w μ0 μ H0 H) :
    Fin C L0 w0 μ0 H0 R e w := by
  obtain ⟨hs', he'⟩ := hs.weak (HWeak.frz (ids := ids));have h1 := Fz.ok hs' hz (fun i hi o ho => ZfM hi ho) (VR.step (he'.step L0) hv);exact ⟨mk d', frz H ids, μ, hR, hs', hmk _ _ _ h1, he.trans he'⟩
theorem Enters.mk {P : Program} {f : FuncId} {fn : Func} (hf : P.funcs[f]? = some fn) (hb : fn.body.isSome = true) (hn : (fn.name == "runtime.NumGoroutine") = false) : Enters P f := by
  intro args w;unfold callFunc
  have hb' : fn.body.isNone = false := by cases h : fn.body <;> simp_all
  simp only [Sem.run_bind, run_program, Result.andThen_ok, hf, hn, hb', if_false, Bool.false_eq_true, Sem.run_pure]
theorem Zg1 {w : World} {L : Nat → Prop} {μ : List Nat} {H : Heap} : ∀ n : Nat, VRs w L μ H (List.replicate n (.tup [])) (List.replicate n undef)
  | 0 => by simp [VRs]
  | n + 1 => by
    simp only [List.replicate_succ, VRs];exact ⟨undef, _, rfl, by simp only [VR]; exact ⟨[], rfl, by simp [VRs]⟩, Zg1 n⟩
theorem ModeR.step {w w' : World} {L L' : Nat → Prop} {μ μ' : List Nat} {H H' : Heap} (st : Step w w' L L' μ μ' H H') {m : AMode} {u : FrameMode} (h : ModeR w L μ H m u) : ModeR w' L' μ' H' m u := by
  cases m with
  | returning => exact h
  | panicking d => obtain ⟨v, h1, h2⟩ := h; exact ⟨v, h1, VR.step st h2⟩
  | recovered d => obtain ⟨v, h1, h2⟩ := h; exact ⟨v, h1, VR.step st h2⟩
theorem ModeR.settle {w : World} {L : Nat → Prop} {μ : List Nat} {H : Heap} {m : AMode} {u : FrameMode} (h : ModeR w L μ H m u) : ModeR w L μ H (setA m) (Go.settle u) := by
  cases m with
  | returning => have h' : u = .returning := h; subst h'; rfl
  | panicking d => obtain ⟨v, h1, h2⟩ := h; subst h1; exact ⟨v, rfl, h2⟩
  | recovered d => obtain ⟨v, h1, h2⟩ := h; subst h1; rfl
theorem ModeR.ne_run {w : World} {L : Nat → Prop} {μ : List Nat} {H : Heap} {m : AMode} {u : FrameMode} (h : ModeR w L μ H m u) : u ≠ .run := by
  rintro rfl
  cases m with
  | returning => cases h
  | panicking d => obtain ⟨v, h1, _⟩ := h; cases h1
  | recovered d => obtain ⟨v, h1, _⟩ := h; cases h1
theorem step_mark {P : Program} {fr : Frame} {cs : List Frame} {w : World} {b : Nat} {args : Array Value} {ds : List Deferred} (hm : fr.mode ≠ .run) (hd : fr.defers = { target := .collected b, args := args } :: ds) (hk : w.heap[b]? = some (.deferred (some []))) :
    step P (lone fr cs w) = .next (lone { fr with defers := ds } cs (putB w b (.deferred none))) := by
  have hk' : (Instr.takeDeferred b).run P w = .ok [] (putB w b (.deferred none)) := by
    simp [Instr.takeDeferred, Sem.run_bind, getObj, setObj, Sem.run, hk, Result.andThen, putB]
  refine step_lone_go ?_
  cases hmode : fr.mode with
  | run => exact absurd hmode hm
  | returning => simp [stepG, unwind, hmode, hd, Sem.runT_eq, hk', GStep.bare_after]
  | panicking chain => simp [stepG, unwind, hmode, hd, Sem.runT_eq, hk', GStep.bare_after]
theorem Zg2 {C : Ctx} {f : FuncId} {fn : Func} (hf : C.P.funcs[f]? = some fn) {L0 : Nat → Prop} {w0 : World} {μ0 : List Nat} {H0 : Heap} {R : Out → Heap → Prop} {env : List D} {tmps : Array Value} :
    ∀ (df : List ADef) (m : AMode) (H : Heap) (w : World) (μ : List Nat) (u : FrameMode) (ds : List Deferred) (fr : Frame) (cs : List Frame), SR C L0 w μ H → VRs w (forb L0 μ H) μ H env tmps.toList → DfR w (forb L0 μ H) μ H df ds → ModeR w (forb L0 μ H) μ H m u → Evo w0 w μ0 μ H0 H →
      QEnd C fn.results.toList R env df m H → fr.mode = u → fr.defers = ds → fr.tmps = tmps → fr.fn = f → fr.kind = .normal → ∃ e w' fr', Fin C L0 w0 μ0 H0 R e w' ∧ Comes C.P (lone fr cs w) (lone fr' cs w') e ∧ fr'.fn = f ∧ fr'.leaving C.P w' e
  | [], m, H, w, μ, u, ds, fr, cs, hs, hv, hd, hm, he, hQ, e1, e2, e3, e4, e5 => by
    have hd0 : ds = [] := hd
    cases m with
    | returning =>
      have hu : u = .returning := hm;obtain ⟨rs, rs', ids, h1, h2, h3⟩ := hQ;obtain ⟨v, r1, r2⟩ := ZgJ hs hv h1;exact ⟨.returned v, w, fr, Fin.freeze (mk := .ret) (fun _ _ _ h => ⟨v, rfl, h⟩) hs r2 (Fz.tup_of h2) h3 he, Steps.refl _ _, e4, e1.trans hu, e2.trans hd0, e5, fn, by rw [e4]; exact hf, by rw [e3]; exact r1⟩
    | panicking d =>
      obtain ⟨v, hu, hvd⟩ := hm;obtain ⟨d', ids, h1, h2⟩ := hQ;exact ⟨.panicked (pan1 v), w, fr, Fin.freeze (mk := .pan) (fun _ _ _ h => ⟨v, rfl, h⟩) hs hvd h1 h2 he, Steps.refl _ _, e4, e1.trans hu, e2.trans hd0, fn, by rw [e4]; exact hf⟩
    | recovered d => exact hQ.elim
  | .fn g asZ :: df, m, H, w, μ, u, ds, fr, cs, hs, hv, hd, hm, he, hQ, e1, e2, e3, e4, e5 => by
    simp only [DfR] at hd;obtain ⟨avs, cvs, ds', hd0, hav, hrest⟩ := hd;obtain ⟨hg1, hg2⟩ := hQ
    have hne : fr.mode ≠ .run := by rw [e1]; exact hm.ne_run
    have hi : (invoke (.fn (.func g) cvs.toArray) avs.toArray).run C.P w = .ok (.enter g (avs ++ cvs).toArray) w := by
      have h0 : avs.toArray ++ cvs.toArray = (avs ++ cvs).toArray := by simp
      simp only [invoke];rw [h0];exact hg1 _ _
    have s1 := step_defer (cs := cs) hne (e2.trans hd0) rfl hi;obtain ⟨e, u', w', frX, ⟨v, m', H2, μ2, rfl, hR, s2, hm2, ev2⟩, hsteps, hkX, hgo⟩ := hg2 L0 w μ (avs ++ cvs) u hs hav hm { fr with defers := ds' } cs e1;have s3 := step_going_returned (c := { { fr with defers := ds' } with mode := u' }) (cs := cs) hkX hgo;have st := ev2.step L0;obtain ⟨e', w'', fr', h1, h2, h3, h4⟩ := Zg2 hf df (setA m') H2 w' μ2 (Go.settle u') ds' { { { fr with defers := ds' } with mode := u' } with mode := Go.settle u' } cs s2 (VRs.step st hv) (DfR.step st hrest) hm2.settle (he.trans ev2) hR rfl rfl e3 e4 e5;exact ⟨e', w'', fr', h1, Comes.of_steps (.head s1 (Steps.trans hsteps (.one s3))) h2, h3, h4⟩
  | .col id :: df, m, H, w, μ, u, ds, fr, cs, hs, hv, hd, hm, he, hQ, e1, e2, e3, e4, e5 => by
    simp only [DfR] at hd;obtain ⟨b, ds', hd0, hb, hrest⟩ := hd;obtain ⟨⟨o, ho, hl, hsp⟩, hR⟩ := hQ
    have hne : fr.mode ≠ .run := by rw [e1]; exact hm.ne_run
    have hw : w.heap[b]? = some (.deferred (some [])) := ((hs.obj id o b ho hb).spec hsp).2;have s1 := step_mark (P := C.P) (cs := cs) hne (e2.trans hd0) hw;obtain ⟨s2, ev2⟩ := hs.putS (x' := none) (ob := .deferred none) ho hb hl (by rw [hsp]; simp) (fun o' h => by cases h);have st := ev2.step L0;obtain ⟨e', w'', fr', h1, h2, h3, h4⟩ := Zg2 hf df m (H.set id none) (putB w b (.deferred none)) μ u ds' { fr with defers := ds' } cs s2 (VRs.step st hv) (DfR.step st hrest) (hm.step st) (he.trans ev2) hR e1 rfl e3 e4 e5;exact ⟨e', w'', fr', h1, Comes.of_steps (.one s1) h2, h3, h4⟩
theorem HC.of_run {C : Ctx} {f : FuncId} {fn : Func} {c : Code} {args : List D} {H : Heap} {R : Out → Heap → Prop} {n : Nat} (hf : C.P.funcs[f]? = some fn) (hen : Enters C.P f) (hb : fn.body = some c) (hn : fn.ntmps = n) (h : ARun C (QFin C fn.results.toList R) [.code c] (args ++ List.replicate (n - args.length) (.tup [])) H []) : HC C f H args R := by
  refine ⟨hen, fun L0 w μ vs hs ha cs => ?_⟩;have hl := ZJ ha
  let b : Frame := { (default : Frame) with fn := f, kind := .normal, roundOf := none }
  let a : Act := { tmps := vs.toArray ++ Array.replicate (fn.ntmps - vs.toArray.size) undef, defers := [] }
  have henter : Frame.enter C.P f vs.toArray .normal = b.atR a [.code c] := by
    simp [Frame.enter, Frame.atR, hf, hb, b, a]
  have htm : VRs w (forb L0 μ H) μ H (args ++ List.replicate (n - args.length) (.tup [])) a.tmps.toList := by
    have : a.tmps.toList = vs ++ List.replicate (n - args.length) undef := by
      simp [a, hn, hl]
    rw [this];exact Zbt ha (Zg1 _)
  obtain ⟨e, a', w', ⟨x, env, H', μ', df, hQ, s1, hv', hd', hx', he'⟩, harr⟩ := h.out L0 w μ H w μ a hs htm rfl (Evo.refl _ _ _) b cs rfl;rw [← henter] at harr
  cases x with
  | ret =>
    have hx2 : e = .ret := hx';subst hx2;obtain ⟨k, hst⟩ := harr;obtain ⟨e2, w2, fr2, h1, h2, h3, h4⟩ := Zg2 hf df .returning H' w' μ' .returning a'.defers { b.atR a' (.code .ret :: k) with mode := .returning } cs s1 hv' hd' rfl he' hQ rfl rfl rfl rfl rfl;exact ⟨e2, w2, fr2, h1, Comes.of_steps (Steps.trans hst (.one (stepR_ret rfl))) h2, h3, h4⟩
  | norm =>
    have hx2 : e = .normal := hx';subst hx2;obtain ⟨e2, w2, fr2, h1, h2, h3, h4⟩ := Zg2 hf df .returning H' w' μ' .returning a'.defers { b.atR a' [] with mode := .returning } cs s1 hv' hd' rfl he' hQ rfl rfl rfl rfl rfl;exact ⟨e2, w2, fr2, h1, Comes.of_steps (Steps.trans harr (.one (stepR_end rfl))) h2, h3, h4⟩
  | exit id => exact hQ.elim
  | pan d =>
    obtain ⟨v, hx2, hvd⟩ := hx';subst hx2;obtain ⟨todo, hst⟩ := harr;obtain ⟨e2, w2, fr2, h1, h2, h3, h4⟩ := Zg2 hf df (.panicking d) H' w' μ' (.panicking (pan1 v)) a'.defers { b.atR a' todo with mode := .panicking (pan1 v) } cs s1 hv' hd' ⟨v, rfl, hvd⟩ he' hQ rfl rfl rfl rfl rfl;exact ⟨e2, w2, fr2, h1, Comes.of_steps hst h2, h3, h4⟩
def Zd8 (P : Program) (t : TypeId) : TypeDesc := (P.underlying t).getD .bool
theorem ZU {C : Ctx} {t : TypeId} {te : TE} (h : C.ty t = some te) : TIC C t (Zd8 C.P t) te.size te.bytes te.zero ∧ aggD (Zd8 C.P t) = aggK te.k := by
  obtain ⟨h1, h2⟩ := C.ok t te h
  have key : ∃ d, C.P.underlying t = some d ∧ aggD d = aggK te.k := by
    cases hk : te.k <;> rw [hk] at h2 <;> simp only [TKok] at h2
    case int => exact ⟨_, h2, rfl⟩
    case bool => exact ⟨_, h2, rfl⟩
    case str => exact ⟨_, h2, rfl⟩
    case slice => exact ⟨_, h2, rfl⟩
    case array => exact ⟨_, h2, rfl⟩
    case struct pl => obtain ⟨fs, k1, _⟩ := h2; exact ⟨_, k1, rfl⟩
    case ptr => obtain ⟨e, k1⟩ := h2; exact ⟨_, k1, rfl⟩
    case other => obtain ⟨d, k1, k2⟩ := h2; exact ⟨d, k1, k2⟩
  obtain ⟨d, k1, k2⟩ := key
  have hd : Zd8 C.P t = d := by simp [Zd8, k1]
  rw [hd];exact ⟨⟨k1, h1⟩, k2⟩
section
variable {C : Ctx} {t : TypeId} {s b : Nat} {z : Value}
theorem ty_un {te : TE} (h : C.ty t = some te) : UN C t (Zd8 C.P t) := (ZU h).1.un
theorem ty_int {k : IntKind} (h : C.ty t = some ⟨.int k, s, b, z⟩) : UN C t (.int k) := (C.ok t _ h).2
theorem ty_bool (h : C.ty t = some ⟨.bool, s, b, z⟩) : UN C t .bool := (C.ok t _ h).2
theorem ty_str (h : C.ty t = some ⟨.str, s, b, z⟩) : UN C t .string := (C.ok t _ h).2
theorem Zax {e : TypeId} (h : C.ty t = some ⟨.slice e, s, b, z⟩) : UN C t (.slice e) := (C.ok t _ h).2
theorem ty_array {n : Nat} {e : TypeId} (h : C.ty t = some ⟨.array n e, s, b, z⟩) : UN C t (.array n e) := (C.ok t _ h).2
theorem ZhO {pl : List (Nat × Nat)} (h : C.ty t = some ⟨.struct pl, s, b, z⟩) : SIC C t pl := (C.ok t _ h).2
def conK : TK → Bool
  | .other => false
  | _ => true
theorem ty_con {te : TE} (h : C.ty t = some te) (hc : conK te.k = true) : CON C t := by
  have h2 := (C.ok t te h).2;unfold CON Program.concrete
  cases hk : te.k <;> rw [hk] at h2 hc <;> simp only [TKok] at h2
  case int => rw [h2]
  case bool => rw [h2]
  case str => rw [h2]
  case slice => rw [h2]
  case array => rw [h2]
  case struct pl => obtain ⟨fs, k1, _⟩ := h2; rw [k1]
  case ptr => obtain ⟨e, k1⟩ := h2; rw [k1]
  case other => cases hc
end
section
variable {C : Ctx} {Q : Post} {ops : Array Oper} {rest : List Oper} {k : List Item} {env env' : List D} {H H' : Heap} {df : List ADef}
variable {dst : Option Tmp} {op : Op} {ty : TypeId} {pos : String} {aft : Array Edge} {gd : Option (Nat × Bool)} {d : D} {t : Tmp} {x y z : Operand} {T e : TypeId} {te tee : TE}
end
end Go.V
