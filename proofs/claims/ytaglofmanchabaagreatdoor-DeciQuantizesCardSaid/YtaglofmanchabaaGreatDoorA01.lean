/- Rules for steps and contracts of functions, each proved; no condition. -/
import Derived.WalkKit
import Derived.Orders
import Derived.AtR
import Derived.Defers
set_option linter.unusedVariables false
set_option linter.unusedSimpArgs false
set_option linter.unnecessarySimpa false
namespace Go.V
open Go.RowKit
inductive D where
  | int (k : IntKind) (n : Int)
  | bool (b : Bool)
  | str (s : ByteArray)
  | sl (n : Nat) (cells : List D)
  | nilsl
  | row (id n : Nat)
  | sptr (cells : List D)
  | ptr (id off : Nat)
  | sub (id off n : Nat)
  | mapv (ks vs : List D)
  | nilptr
  | clos (f : FuncId) (caps : List D)
  | bnd (f : FuncId) (first : List D)
  | nilfn
  | iface (t : TypeId) (d : D)
  | niliface
  | agg (cells : List D)
  | tup (vs : List D)
  | yld (id : Nat)
  | mapp (id : Nat)
  | any
  deriving Inhabited
inductive LSt where
  | ready
  | busy
  | done (c : Code)
inductive Spec where
  | loop (st : LSt) (ps : Array Tmp) (assign body : Code) (env : List D)
  | defs
  | map (es : List (D × D))
structure AObj where
  cells : List D
  elem : TypeId
  esz : Nat
  live : Bool
  sp : Option Spec
abbrev Heap := List (Option AObj)
def liveB (μ : List Nat) (H : Heap) (b : Nat) : Prop := ∃ (i : Nat) (o : AObj), H[i]? = some (some o) ∧ o.live = true ∧ μ[i]? = some b
def forb (L0 : Nat → Prop) (μ : List Nat) (H : Heap) (b : Nat) : Prop := L0 b ∨ liveB μ H b
mutual
def VR (w : World) (L : Nat → Prop) : List Nat → Heap → D → Value → Prop
  | _, _, .int k n, v => v = .int k n
  | _, _, .bool b, v => v = .bool b
  | _, _, .str s, v => v = .string s
  | _, _, .sl n cs, v => ∃ a cap, v = .slice a n cap ∧ n ≤ cap ∧ cap ≤ maxLen ∧ (cs ≠ [] → ∃ ad, a = some ad ∧ ad.block < w.heap.size ∧ ¬ L ad.block ∧ VRL w L ad 0 cs)
  | _, _, .nilsl, v => v = .slice none 0 0
  | μ, H, .row id n, v => ∃ x : Option AObj, H[id]? = some x ∧ ∀ o : AObj, x = some o → ∃ (b cap : Nat) (cur : Array Value), μ[id]? = some b ∧ v = .slice (some ⟨b, 0, none⟩) n cap ∧ n ≤ cap ∧ cap ≤ maxLen ∧
      w.heap[b]? = some (.cells cur o.elem (0, 0)) ∧ cur.size = cap * o.esz ∧ o.cells.length = n * o.esz
  | _, _, .sptr cs, v => ∃ ad, v = .pointer (some ad) ∧ ad.block < w.heap.size ∧ ¬ L ad.block ∧ VRL w L ad 0 cs
  | μ, _, .ptr id off, v => ∃ b : Nat, μ[id]? = some b ∧ v = .pointer (some ⟨b, off, none⟩)
  | μ, _, .sub id off n, v => ∃ b cap : Nat, μ[id]? = some b ∧ v = .slice (some ⟨b, off, none⟩) n cap ∧ n ≤ cap ∧ cap ≤ maxLen
  | _, _, .mapv ks us, v => ∃ (b : Nat) (es : Array MapEntry) (clock : Nat), v = .map (some b) ∧ b < w.heap.size ∧ ¬ L b ∧ w.heap[b]? = some (.map es clock) ∧ ∃ l : List MapEntry, l.Perm es.toList ∧ VRs w L [] [] ks (l.map (·.key)) ∧ VRs w L [] [] us (l.map (·.val))
  | _, _, .nilptr, v => v = .pointer none
  | μ, H, .clos f caps, v => ∃ vs, v = .func (.func f) #[] (List.toArray vs) ∧ VRs w L μ H caps vs
  | μ, H, .bnd f first, v => ∃ vs, v = .func (.func f) (List.toArray vs) #[] ∧ VRs w L μ H first vs
  | _, _, .nilfn, v => v = .nilFunc
  | μ, H, .iface t d, v => ∃ u, v = .iface t u ∧ VR w L μ H d u
  | _, _, .niliface, v => v = .nilIface
  | μ, H, .agg cs, v => ∃ vs, v = .agg (List.toArray vs) ∧ VRs w L μ H cs vs
  | μ, H, .tup cs, v => ∃ vs, v = .tuple (List.toArray vs) ∧ VRs w L μ H cs vs
  | μ, _, .yld id, v => ∃ b : Nat, μ[id]? = some b ∧ v = .func (.yield b) #[] #[]
  | μ, _, .mapp id, v => ∃ b : Nat, μ[id]? = some b ∧ v = .map (some b)
  | _, _, .any, _ => True
def VRs (w : World) (L : Nat → Prop) : List Nat → Heap → List D → List Value → Prop
  | _, _, [], vs => vs = []
  | μ, H, d :: ds, vs => ∃ v us, vs = v :: us ∧ VR w L μ H d v ∧ VRs w L μ H ds us
def VRL (w : World) (L : Nat → Prop) : Addr → Nat → List D → Prop
  | _, _, [] => True
  | ad, j, d :: ds => (∃ v, w.cell? (ad.add j) = some v ∧ v.oneCell' = true ∧ VR w L [] [] d v) ∧ VRL w L ad (j + 1) ds
end
theorem Zf9 {w : World} {L : Nat → Prop} {ad : Addr} : ∀ {cs : List D} {k : Nat}, VRL w L ad k cs → ∀ {j : Nat} {d : D}, cs[j]? = some d → ∃ v, w.cell? (ad.add (k + j)) = some v ∧ v.oneCell' = true ∧ VR w L [] [] d v
  | [], _, _, j, d, h => by simp at h
  | c :: cs, k, hr, 0, d, h => by
    simp only [VRL] at hr;simp only [List.getElem?_cons_zero, Option.some.injEq] at h;subst h;exact hr.1
  | c :: cs, k, hr, j + 1, d, h => by
    simp only [VRL] at hr;simp only [List.getElem?_cons_succ] at h;obtain ⟨v, h1, h2⟩ := Zf9 hr.2 h;exact ⟨v, by rw [show k + (j + 1) = k + 1 + j by omega]; exact h1, h2⟩
theorem Zfa {w : World} {L : Nat → Prop} {ad : Addr} : ∀ {cs : List D} {k : Nat}, (∀ (j : Nat) (d : D), cs[j]? = some d → ∃ v, w.cell? (ad.add (k + j)) = some v ∧ v.oneCell' = true ∧ VR w L [] [] d v) → VRL w L ad k cs
  | [], _, _ => by simp [VRL]
  | c :: cs, k, h => by
    simp only [VRL];refine ⟨h 0 c rfl, Zfa fun j d hd => ?_⟩;obtain ⟨v, h1, h2⟩ := h (j + 1) d (by simpa using hd);exact ⟨v, by rw [show k + 1 + j = k + (j + 1) by omega]; exact h1, h2⟩
theorem ZJ {w : World} {L : Nat → Prop} {μ : List Nat} {H : Heap} : ∀ {ds : List D} {vs : List Value}, VRs w L μ H ds vs → vs.length = ds.length
  | [], vs, h => by simp only [VRs] at h; simp [h]
  | d :: ds, vs, h => by
    simp only [VRs] at h;obtain ⟨v, us, rfl, _, h2⟩ := h;simp [ZJ h2]
theorem Z2 {w : World} {L : Nat → Prop} {μ : List Nat} {H : Heap} : ∀ {ds : List D} {vs : List Value}, VRs w L μ H ds vs → ∀ {j : Nat} {d : D}, ds[j]? = some d → ∃ v, vs[j]? = some v ∧ VR w L μ H d v
  | [], _, _, j, d, h => by simp at h
  | c :: ds, vs, hr, 0, d, h => by
    simp only [VRs] at hr;obtain ⟨v, us, rfl, h1, h2⟩ := hr;simp only [List.getElem?_cons_zero, Option.some.injEq] at h;subst h;exact ⟨v, rfl, h1⟩
  | c :: ds, vs, hr, j + 1, d, h => by
    simp only [VRs] at hr;obtain ⟨v, us, rfl, h1, h2⟩ := hr;simp only [List.getElem?_cons_succ] at h;obtain ⟨u, hu, hv⟩ := Z2 h2 h;exact ⟨u, by simpa using hu, hv⟩
theorem ZfE {w : World} {L : Nat → Prop} {μ : List Nat} {H : Heap} : ∀ {ds : List D} {vs : List Value}, vs.length = ds.length → (∀ (j : Nat) (d : D) (v : Value), ds[j]? = some d → vs[j]? = some v → VR w L μ H d v) → VRs w L μ H ds vs
  | [], vs, h, _ => by simp only [VRs]; exact List.eq_nil_of_length_eq_zero h
  | c :: ds, [], h, _ => by simp at h
  | c :: ds, v :: vs, h, hj => by
    simp only [VRs];exact ⟨v, vs, rfl, hj 0 c v rfl rfl, ZfE (by simpa using h) fun j d u h1 h2 => hj (j + 1) d u (by simpa using h1) (by simpa using h2)⟩
def HStep (w w' : World) (μ : List Nat) (H H' : Heap) : Prop :=
  ∀ (id : Nat) (x : Option AObj), H[id]? = some x → ∃ x' : Option AObj, H'[id]? = some x' ∧ ∀ o' : AObj, x' = some o' → ∃ o : AObj, x = some o ∧ o'.elem = o.elem ∧ o'.esz = o.esz ∧ o'.cells.length = o.cells.length ∧
    ∀ (b : Nat) (cur : Array Value), μ[id]? = some b → w.heap[b]? = some (.cells cur o.elem (0, 0)) → ∃ cur' : Array Value, w'.heap[b]? = some (.cells cur' o.elem (0, 0)) ∧ cur'.size = cur.size
structure Step (w w' : World) (L L' : Nat → Prop) (μ μ' : List Nat) (H H' : Heap) : Prop where
  size : w.heap.size ≤ w'.heap.size
  block : ∀ b : Nat, b < w.heap.size → ¬ L b → w'.heap[b]? = w.heap[b]?
  keep : ∀ b : Nat, b < w.heap.size → ¬ L b → ¬ L' b
  map : ∀ id b : Nat, μ[id]? = some b → μ'[id]? = some b
  heap : HStep w w' μ H H'
theorem HStep.nil (w w' : World) (μ : List Nat) : HStep w w' μ [] [] := fun id x h => by simp at h
theorem Step.pure {w w' : World} {L L' : Nat → Prop} {μ μ' : List Nat} {H H' : Heap} (h : Step w w' L L' μ μ' H H') : Step w w' L L' [] [] [] [] :=
  ⟨h.size, h.block, h.keep, fun _ _ h => by simp at h, HStep.nil _ _ _⟩
mutual
theorem VR.step {w w' : World} {L L' : Nat → Prop} {μ μ' : List Nat} {H H' : Heap} (h : Step w w' L L' μ μ' H H') : ∀ {d : D} {v : Value}, VR w L μ H d v → VR w' L' μ' H' d v
  | .int k n, v, hv => by simpa only [VR] using hv
  | .bool b, v, hv => by simpa only [VR] using hv
  | .str s, v, hv => by simpa only [VR] using hv
  | .sl n cs, v, hv => by
    simp only [VR] at hv ⊢;obtain ⟨a, cap, rfl, h1, h2, h3⟩ := hv;refine ⟨a, cap, rfl, h1, h2, fun hne => ?_⟩;obtain ⟨ad, rfl, hb, hl, hr⟩ := h3 hne;exact ⟨ad, rfl, Nat.lt_of_lt_of_le hb h.size, h.keep _ hb hl, VRL.step h.pure hb hl hr⟩
  | .nilsl, v, hv => by simpa only [VR] using hv
  | .row id n, v, hv => by
    simp only [VR] at hv ⊢;obtain ⟨x, hx, ho⟩ := hv;obtain ⟨x', hx', ho'⟩ := h.heap id x hx;refine ⟨x', hx', fun o' e => ?_⟩;obtain ⟨o, rfl, e1, e2, e3, e4⟩ := ho' o' e;obtain ⟨b, cap, cur, k1, k2, k3, k4, k5, k6, k7⟩ := ho o rfl;obtain ⟨cur', c1, c2⟩ := e4 b cur k1 k5;exact ⟨b, cap, cur', h.map _ _ k1, k2, k3, k4, by rw [e1]; exact c1, by rw [e2, c2]; exact k6, by rw [e2, e3]; exact k7⟩
  | .sptr cs, v, hv => by
    simp only [VR] at hv ⊢;obtain ⟨ad, rfl, hb, hl, hr⟩ := hv;exact ⟨ad, rfl, Nat.lt_of_lt_of_le hb h.size, h.keep _ hb hl, VRL.step h.pure hb hl hr⟩
  | .ptr id off, v, hv => by
    simp only [VR] at hv ⊢;obtain ⟨b, h1, h2⟩ := hv;exact ⟨b, h.map _ _ h1, h2⟩
  | .sub id off n, v, hv => by
    simp only [VR] at hv ⊢;obtain ⟨b, cap, h1, h2⟩ := hv;exact ⟨b, cap, h.map _ _ h1, h2⟩
  | .mapv ks us, v, hv => by
    simp only [VR] at hv ⊢;obtain ⟨b, es, c, rfl, h2, h3, h4, l, hl, h5, h6⟩ := hv;exact ⟨b, es, c, rfl, Nat.lt_of_lt_of_le h2 h.size, h.keep _ h2 h3, by rw [h.block b h2 h3]; exact h4, l, hl, VRs.step h.pure h5, VRs.step h.pure h6⟩
  | .nilptr, v, hv => by simpa only [VR] using hv
  | .clos f caps, v, hv => by
    simp only [VR] at hv ⊢;obtain ⟨vs, h1, h2⟩ := hv;exact ⟨vs, h1, VRs.step h h2⟩
  | .bnd f first, v, hv => by
    simp only [VR] at hv ⊢;obtain ⟨vs, h1, h2⟩ := hv;exact ⟨vs, h1, VRs.step h h2⟩
  | .nilfn, v, hv => by simpa only [VR] using hv
  | .iface t d, v, hv => by
    simp only [VR] at hv ⊢;obtain ⟨u, h1, h2⟩ := hv;exact ⟨u, h1, VR.step h h2⟩
  | .niliface, v, hv => by simpa only [VR] using hv
  | .agg cs, v, hv => by
    simp only [VR] at hv ⊢;obtain ⟨vs, h1, h2⟩ := hv;exact ⟨vs, h1, VRs.step h h2⟩
  | .tup cs, v, hv => by
    simp only [VR] at hv ⊢;obtain ⟨vs, h1, h2⟩ := hv;exact ⟨vs, h1, VRs.step h h2⟩
  | .yld id, v, hv => by
    simp only [VR] at hv ⊢;obtain ⟨b, h1, h2⟩ := hv;exact ⟨b, h.map _ _ h1, h2⟩
  | .mapp id, v, hv => by
    simp only [VR] at hv ⊢;obtain ⟨b, h1, h2⟩ := hv;exact ⟨b, h.map _ _ h1, h2⟩
  | .any, v, _ => by simp only [VR]
theorem VRs.step {w w' : World} {L L' : Nat → Prop} {μ μ' : List Nat} {H H' : Heap} (h : Step w w' L L' μ μ' H H') : ∀ {ds : List D} {vs : List Value}, VRs w L μ H ds vs → VRs w' L' μ' H' ds vs
  | [], vs, hv => by simpa only [VRs] using hv
  | d :: ds, vs, hv => by
    simp only [VRs] at hv ⊢;obtain ⟨v, us, h1, h2, h3⟩ := hv;exact ⟨v, us, h1, VR.step h h2, VRs.step h h3⟩
theorem VRL.step {w w' : World} {L L' : Nat → Prop} (h : Step w w' L L' [] [] [] []) {ad : Addr} (hb : ad.block < w.heap.size) (hl : ¬ L ad.block) : ∀ {cs : List D} {k : Nat}, VRL w L ad k cs → VRL w' L' ad k cs
  | [], k, _ => by simp only [VRL]
  | d :: ds, k, hv => by
    simp only [VRL] at hv ⊢;obtain ⟨⟨v, h1, h2, h3⟩, h4⟩ := hv
    have hblk : (ad.add k).block = ad.block := by unfold Addr.add; split <;> rfl
    refine ⟨⟨v, ?_, h2, VR.step h h3⟩, VRL.step h hb hl h4⟩;rw [World.cell?_of_block (w := w) (by rw [hblk]; exact h.block _ hb hl)];exact h1
end
def D.pure : D → Bool
  | .row .. | .ptr .. | .sub .. | .yld .. | .mapp .. | .any => false
  | .clos _ caps => pures caps
  | .bnd _ first => pures first
  | .iface _ d => d.pure
  | .agg cs => pures cs
  | .tup cs => pures cs
  | _ => true
where
  pures : List D → Bool
  | [] => true
  | d :: ds => d.pure && pures ds
inductive TK where
  | int (k : IntKind)
  | bool
  | str
  | slice (e : TypeId)
  | array (n : Nat) (e : TypeId)
  | struct (pl : List (Nat × Nat))
  | ptr
  | other
structure TE where
  k : TK
  size : Nat
  bytes : Nat
  zero : Value
def aggK : TK → Bool
  | .array .. | .struct _ => true
  | _ => false
def aggD : TypeDesc → Bool
  | .struct _ | .array _ _ => true
  | _ => false
def SI (P : Program) (T : TypeId) (pl : List (Nat × Nat)) : Prop :=
  ∃ fields : Array Field, P.underlying T = some (.struct fields) ∧ fields.toList.mapM (fun f => (P.info? f.type).map fun i => (f.offset, i.size)) = some pl
def TKok (P : Program) (t : TypeId) : TK → Prop
  | .int k => P.underlying t = some (.int k)
  | .bool => P.underlying t = some .bool
  | .str => P.underlying t = some .string
  | .slice e => P.underlying t = some (.slice e)
  | .array n e => P.underlying t = some (.array n e)
  | .struct pl => SI P t pl
  | .ptr => ∃ e, P.underlying t = some (.pointer e)
  | .other => ∃ d, P.underlying t = some d ∧ aggD d = false
def TEok (P : Program) (t : TypeId) (te : TE) : Prop :=
  (P.info? t).map (fun i => (i.size, i.bytes, i.zero)) = some (te.size, te.bytes, some te.zero) ∧ TKok P t te.k
inductive Tr where
  | nil
  | leaf (t : TypeId) (te : TE)
  | node (m : Nat) (l r : Tr)
def Tr.get : Tr → TypeId → Option TE
  | .nil, _ => none
  | .leaf t te, u => bif Nat.beq u t then some te else none
  | .node m l r, u => bif Nat.ble u m then l.get u else r.get u
def Tr.All (P : Program) : Tr → Prop
  | .nil => True
  | .leaf t te => TEok P t te
  | .node _ l r => l.All P ∧ r.All P
theorem Tr.get_ok {P : Program} : ∀ {tr : Tr} {t : TypeId} {te : TE}, tr.All P → tr.get t = some te → TEok P t te
  | .nil, t, te, _, h => by simp [Tr.get] at h
  | .leaf u ue, t, te, ha, h => by
    simp only [Tr.get] at h
    cases hb : Nat.beq t u with
    | false => rw [hb] at h; cases h
    | true =>
      rw [hb] at h
      injection h with h
      subst h;have : t = u := Nat.eq_of_beq_eq_true hb;subst this;exact ha
  | .node m l r, t, te, ha, h => by
    simp only [Tr.get] at h
    cases hb : Nat.ble t m with
    | false => rw [hb] at h; exact Tr.get_ok ha.2 h
    | true => rw [hb] at h; exact Tr.get_ok ha.1 h
structure Ctx where
  P : Program
  gl : List (Nat × List D)
  ty : TypeId → Option TE
  ok : ∀ t te, ty t = some te → TEok P t te
def LStR : LSt → Loop → Prop
  | .ready, r => r.state = .ready ∧ r.pending = none
  | .busy, r => r.state = .busy ∧ r.pending = none
  | .done c, r => r.state = .done ∧ r.pending = some c
def SpR (w' w : World) (L : Nat → Prop) (μ : List Nat) (H : Heap) : Spec → Nat → Prop
  | .loop st ps asg bd env, b => ∃ r : Loop, w'.heap[b]? = some (.loop r) ∧ r.params = ps ∧ r.assign = asg ∧ r.body = bd ∧ VRs w L μ H env r.tmps.toList ∧ LStR st r
  | .defs, b => w'.heap[b]? = some (.deferred (some []))
  | .map es, b => ∃ (a : Array MapEntry) (clock : Nat), w'.heap[b]? = some (.map a clock) ∧ VRs w L μ H (es.map (·.1)) (a.toList.map (·.key)) ∧ VRs w L μ H (es.map (·.2)) (a.toList.map (·.val))
def ObjR (w' w : World) (L : Nat → Prop) (μ : List Nat) (H : Heap) (o : AObj) (b : Nat) : Prop :=
  match o.sp with
  | none => ∃ cur : Array Value, w'.heap[b]? = some (.cells cur o.elem (0, 0)) ∧ o.cells.length ≤ cur.size ∧
      ∀ (j : Nat) (d : D), o.cells[j]? = some d → ∃ v : Value, cur[j]? = some v ∧ v.oneCell' = true ∧ VR w L μ H d v
  | some s => o.cells = [] ∧ SpR w' w L μ H s b
section
variable {w w' : World} {L L' : Nat → Prop} {μ μ' : List Nat} {H H' : Heap} {o o' : AObj} {b : Nat}
theorem ObjR.row (h : ObjR w' w L μ H o b) (hs : o.sp = none) : ∃ cur : Array Value, w'.heap[b]? = some (.cells cur o.elem (0, 0)) ∧ o.cells.length ≤ cur.size ∧
      ∀ (j : Nat) (d : D), o.cells[j]? = some d → ∃ v : Value, cur[j]? = some v ∧ v.oneCell' = true ∧ VR w L μ H d v := by
  unfold ObjR at h; rw [hs] at h; exact h
theorem ObjR.of_row (hs : o.sp = none) (h : ∃ cur : Array Value, w'.heap[b]? = some (.cells cur o.elem (0, 0)) ∧ o.cells.length ≤ cur.size ∧
      ∀ (j : Nat) (d : D), o.cells[j]? = some d → ∃ v : Value, cur[j]? = some v ∧ v.oneCell' = true ∧ VR w L μ H d v) : ObjR w' w L μ H o b := by
  unfold ObjR; rw [hs]; exact h
theorem ObjR.spec {s : Spec} (h : ObjR w' w L μ H o b) (hs : o.sp = some s) : o.cells = [] ∧ SpR w' w L μ H s b := by
  unfold ObjR at h; rw [hs] at h; exact h
theorem ObjR.of_spec {s : Spec} (hs : o.sp = some s) (h : o.cells = [] ∧ SpR w' w L μ H s b) : ObjR w' w L μ H o b := by
  unfold ObjR; rw [hs]; exact h
theorem SpR.lt {s : Spec} (h : SpR w' w L μ H s b) : b < w'.heap.size := by
  cases s with
  | loop st ps asg bd env => obtain ⟨r, h1, _⟩ := h; exact (Array.getElem?_eq_some_iff.1 h1).1
  | defs => exact (Array.getElem?_eq_some_iff.1 h).1
  | map es => obtain ⟨a, c, h1, _⟩ := h; exact (Array.getElem?_eq_some_iff.1 h1).1
theorem SpR.same {s : Spec} (e : w'.heap[b]? = w.heap[b]?) (h : SpR w w L μ H s b) : SpR w' w L μ H s b := by
  cases s with
  | loop st ps asg bd env => obtain ⟨r, h1, h2⟩ := h; exact ⟨r, e.trans h1, h2⟩
  | defs => exact e.trans h
  | map es => obtain ⟨a, c, h1, h2⟩ := h; exact ⟨a, c, e.trans h1, h2⟩
theorem SpR.step {s : Spec} (st : Step w w' L L' μ μ' H H') (h : SpR w' w L μ H s b) : SpR w' w' L' μ' H' s b := by
  cases s with
  | loop st' ps asg bd env => obtain ⟨r, h1, h2, h3, h4, h5, h6⟩ := h; exact ⟨r, h1, h2, h3, h4, VRs.step st h5, h6⟩
  | defs => exact h
  | map es => obtain ⟨a, c, h1, h2, h3⟩ := h; exact ⟨a, c, h1, VRs.step st h2, VRs.step st h3⟩
theorem ObjR.lt (h : ObjR w' w L μ H o b) : b < w'.heap.size := by
  cases hs : o.sp with
  | none => obtain ⟨cur, h1, _⟩ := h.row hs; exact (Array.getElem?_eq_some_iff.1 h1).1
  | some s => exact (h.spec hs).2.lt
theorem ObjR.same (e : w'.heap[b]? = w.heap[b]?) (h : ObjR w w L μ H o b) : ObjR w' w L μ H o b := by
  cases hs : o.sp with
  | none => obtain ⟨cur, h1, h2⟩ := h.row hs; exact .of_row hs ⟨cur, e.trans h1, h2⟩
  | some s => exact .of_spec hs ⟨(h.spec hs).1, (h.spec hs).2.same e⟩
theorem ObjR.step (st : Step w w' L L' μ μ' H H') (h : ObjR w' w L μ H o b) : ObjR w' w' L' μ' H' o b := by
  cases hs : o.sp with
  | none =>
    obtain ⟨cur, h1, h2, h3⟩ := h.row hs;refine .of_row hs ⟨cur, h1, h2, fun j d hd => ?_⟩;obtain ⟨v, k1, k2, k3⟩ := h3 j d hd;exact ⟨v, k1, k2, VR.step st k3⟩
  | some s => exact .of_spec hs ⟨(h.spec hs).1, (h.spec hs).2.step st⟩
theorem ObjR.like (h : ObjR w' w L μ H o b) (h1 : o'.cells = o.cells) (h2 : o'.elem = o.elem) (h3 : o'.sp = o.sp) : ObjR w' w L μ H o' b := by
  unfold ObjR at h ⊢; rw [h1, h2, h3]; exact h
theorem ObjR.sp_none {cur : Array Value} {e : TypeId} {fr : Nat × Nat} (h : ObjR w' w L μ H o b) (hw : w'.heap[b]? = some (.cells cur e fr)) : o.sp = none := by
  cases hs : o.sp with
  | none => rfl
  | some s =>
    have h2 := (h.spec hs).2
    cases s with
    | loop st' ps asg bd env => obtain ⟨r, h1, _⟩ := h2; rw [hw] at h1; cases h1
    | defs => rw [show w'.heap[b]? = _ from h2] at hw; cases hw
    | map es => obtain ⟨a, c, h1, _⟩ := h2; rw [hw] at h1; cases h1
theorem ObjR.sp_cells {j : Nat} {d : D} (h : ObjR w' w L μ H o b) (hd : o.cells[j]? = some d) : o.sp = none := by
  cases hs : o.sp with
  | none => rfl
  | some s => rw [(h.spec hs).1] at hd; simp at hd
end
def GR (w : World) (L : Nat → Prop) (g : Nat) (cs : List D) : Prop := VRL w L ⟨g, 0, none⟩ 0 cs ∧ ∃ (cur : Array Value) (e : TypeId) (fz : Nat × Nat), w.heap[g]? = some (.cells cur e fz) ∧ cur.size = cs.length
theorem GR.step {w w' : World} {L L' : Nat → Prop} {g : Nat} {cs : List D} (st : Step w w' L L' [] [] [] []) (h1 : g < w.heap.size) (h2 : ¬ L g) (h3 : GR w L g cs) : GR w' L' g cs := by
  obtain ⟨h, cur, e, fz, k1, k2⟩ := h3;exact ⟨VRL.step st h1 h2 h, cur, e, fz, (st.block g h1 h2).trans k1, k2⟩
structure SR (C : Ctx) (L0 : Nat → Prop) (w : World) (μ : List Nat) (H : Heap) : Prop where
  len : μ.length = H.length
  obj : ∀ (i : Nat) (o : AObj) (b : Nat), H[i]? = some (some o) → μ[i]? = some b → ObjR w w (forb L0 μ H) μ H o b
  inj : ∀ (i j : Nat) (oi oj : AObj) (b : Nat), H[i]? = some (some oi) → H[j]? = some (some oj) → μ[i]? = some b → μ[j]? = some b → oi.live = true → i = j
  own : ∀ (i : Nat) (o : AObj) (b : Nat), H[i]? = some (some o) → μ[i]? = some b → ¬ L0 b
  lim : ∀ b : Nat, L0 b → b < w.heap.size
  glob : ∀ (g : Nat) (cs : List D), (g, cs) ∈ C.gl → g < w.heap.size ∧ ¬ forb L0 μ H g ∧ GR w (forb L0 μ H) g cs
structure Evo (w w' : World) (μ μ' : List Nat) (H H' : Heap) : Prop where
  os : w'.os = w.os
  tape : w'.tape = w.tape
  output : w'.output = w.output
  size : w.heap.size ≤ w'.heap.size
  chg : ∀ b : Nat, b < w.heap.size → ¬ liveB μ H b → w'.heap[b]? = w.heap[b]?
  live : ∀ b : Nat, b < w.heap.size → liveB μ' H' b → liveB μ H b
  map : ∀ id b : Nat, μ[id]? = some b → μ'[id]? = some b
  heap : HStep w w' μ H H'
theorem HStep.refl (w : World) (μ : List Nat) (H : Heap) : HStep w w μ H H :=
  fun _ x h => ⟨x, h, fun o' e => ⟨o', e, rfl, rfl, rfl, fun _ cur _ h => ⟨cur, h, rfl⟩⟩⟩
theorem Evo.refl (w : World) (μ : List Nat) (H : Heap) : Evo w w μ μ H H :=
  ⟨rfl, rfl, rfl, Nat.le_refl _, fun _ _ _ => rfl, fun _ _ h => h, fun _ _ h => h, HStep.refl _ _ _⟩
theorem HStep.trans {w w1 w2 : World} {μ μ1 : List Nat} {H H1 H2 : Heap} (hm : ∀ id b : Nat, μ[id]? = some b → μ1[id]? = some b) (h : HStep w w1 μ H H1) (k : HStep w1 w2 μ1 H1 H2) : HStep w w2 μ H H2 := by
  intro id x hx;obtain ⟨x1, hx1, h1⟩ := h id x hx;obtain ⟨x2, hx2, h2⟩ := k id x1 hx1;refine ⟨x2, hx2, fun o2 e2 => ?_⟩;obtain ⟨o1, e1, a1, a2, a3, a4⟩ := h2 o2 e2;obtain ⟨o, e, b1, b2, b3, b4⟩ := h1 o1 e1;refine ⟨o, e, a1.trans b1, a2.trans b2, a3.trans b3, fun b cur hb hw => ?_⟩;obtain ⟨cur1, c1, c2⟩ := b4 b cur hb hw;obtain ⟨cur2, d1, d2⟩ := a4 b cur1 (hm _ _ hb) (by rw [b1]; exact c1);exact ⟨cur2, by rw [← b1]; exact d1, d2.trans c2⟩
theorem Evo.trans {w w1 w2 : World} {μ μ1 μ2 : List Nat} {H H1 H2 : Heap} (h : Evo w w1 μ μ1 H H1) (k : Evo w1 w2 μ1 μ2 H1 H2) : Evo w w2 μ μ2 H H2 :=
  ⟨k.os.trans h.os, k.tape.trans h.tape, k.output.trans h.output, Nat.le_trans h.size k.size,
    fun b hb hl => (k.chg b (Nat.lt_of_lt_of_le hb h.size) (fun hl1 => hl (h.live b hb hl1))).trans (h.chg b hb hl),
    fun b hb hl => h.live b hb (k.live b (Nat.lt_of_lt_of_le hb h.size) hl), fun i b hb => k.map i b (h.map i b hb), HStep.trans h.map h.heap k.heap⟩
theorem Evo.step {w w' : World} {μ μ' : List Nat} {H H' : Heap} (h : Evo w w' μ μ' H H') (L0 : Nat → Prop) : Step w w' (forb L0 μ H) (forb L0 μ' H') μ μ' H H' :=
  ⟨h.size, fun b hb hl => h.chg b hb (fun x => hl (.inr x)), fun b hb hl hl' => hl (hl'.imp id (h.live b hb)), h.map, h.heap⟩
inductive Out where
  | ret (d : D)
  | pan (d : D)
def pan1 (v : Value) : List PanicEntry := [{ v := v, recovered := false }]
def OutR (w : World) (L : Nat → Prop) (μ : List Nat) (H : Heap) : Out → Ending → Prop
  | .ret d, e => ∃ v, e = .returned v ∧ VR w L μ H d v
  | .pan d, e => ∃ v, e = .panicked (pan1 v) ∧ VR w L μ H d v
def Fin (C : Ctx) (L0 : Nat → Prop) (w0 : World) (μ0 : List Nat) (H0 : Heap) (R : Out → Heap → Prop) (e : Ending) (w : World) : Prop :=
  ∃ o H μ, R o H ∧ SR C L0 w μ H ∧ OutR w (forb L0 μ H) μ H o e ∧ Evo w0 w μ0 μ H0 H
def Enters (P : Program) (f : FuncId) : Prop := ∀ (args : Array Value) (w : World), (callFunc f args).run P w = .ok (.enter f args) w
def HC (C : Ctx) (f : FuncId) (H : Heap) (args : List D) (R : Out → Heap → Prop) : Prop :=
  Enters C.P f ∧ ∀ (L0 : Nat → Prop) (w : World) (μ : List Nat) (vs : List Value), SR C L0 w μ H → VRs w (forb L0 μ H) μ H args vs → Calls C.P f vs.toArray w (Fin C L0 w μ H R)
theorem HC.mono {C : Ctx} {f : FuncId} {H : Heap} {args : List D} {R R' : Out → Heap → Prop} (h : HC C f H args R) (hr : ∀ o H, R o H → R' o H) : HC C f H args R' :=
  ⟨h.1, fun L0 w μ vs hs ha => (h.2 L0 w μ vs hs ha).mono fun _ _ ⟨o, H1, μ1, h1, h2⟩ => ⟨o, H1, μ1, hr _ _ h1, h2⟩⟩
inductive ADef where
  | fn (f : FuncId) (args : List D)
  | col (id : Nat)
def DfR (w : World) (L : Nat → Prop) (μ : List Nat) (H : Heap) : List ADef → List Deferred → Prop
  | [], ds => ds = []
  | .fn f args :: df, ds => ∃ vs cs ds', ds = { target := .fn (.func f) (List.toArray cs), args := List.toArray vs } :: ds' ∧ VRs w L μ H args (vs ++ cs) ∧ DfR w L μ H df ds'
  | .col id :: df, ds => ∃ b ds', ds = { target := .collected b, args := #[] } :: ds' ∧ μ[id]? = some b ∧ DfR w L μ H df ds'
theorem DfR.step {w w' : World} {L L' : Nat → Prop} {μ μ' : List Nat} {H H' : Heap} (h : Step w w' L L' μ μ' H H') : ∀ {df : List ADef} {ds : List Deferred}, DfR w L μ H df ds → DfR w' L' μ' H' df ds
  | [], _, hd => by simpa only [DfR] using hd
  | .fn f args :: df, _, hd => by
    simp only [DfR] at hd ⊢;obtain ⟨vs, cs, ds', h1, h2, h3⟩ := hd;exact ⟨vs, cs, ds', h1, VRs.step h h2, DfR.step h h3⟩
  | .col id :: df, _, hd => by
    simp only [DfR] at hd ⊢;obtain ⟨b, ds', h1, h2, h3⟩ := hd;exact ⟨b, ds', h1, h.map _ _ h2, DfR.step h h3⟩
inductive AEx where
  | ret
  | norm
  | exit (id : Nat)
  | pan (d : D)
def ExR (w : World) (L : Nat → Prop) (μ : List Nat) (H : Heap) : AEx → Exit → Prop
  | .ret, e => e = .ret
  | .norm, e => e = .normal
  | .exit id, e => e = .exit id
  | .pan d, e => ∃ v, e = .panic (pan1 v) ∧ VR w L μ H d v
structure Post where
  rd : Option Nat
  p : AEx → List D → Heap → List ADef → Prop
instance : CoeFun Post (fun _ => AEx → List D → Heap → List ADef → Prop) := ⟨Post.p⟩
def RdOk (μ : List Nat) (b : Frame) : Option Nat → Prop
  | none => b.roundOf = none
  | some id => ∃ l, μ[id]? = some l ∧ b.roundOf = some l
theorem RdOk.step {μ μ' : List Nat} {b : Frame} (h : ∀ id k : Nat, μ[id]? = some k → μ'[id]? = some k) : ∀ {rd : Option Nat}, RdOk μ b rd → RdOk μ' b rd
  | none, hb => hb
  | some _, ⟨l, h1, h2⟩ => ⟨l, h _ _ h1, h2⟩
def ArrR (P : Program) (m : Machine) (b : Frame) (cs : List Frame) : Exit → Act → World → Prop
  | .normal, a, w => Steps P m (lone (b.atR a []) cs w)
  | .ret, a, w => ∃ k, Steps P m (lone (b.atR a (.code .ret :: k)) cs w)
  | .exit id, a, w => ∃ k, exitTo id k = none ∧ Steps P m (lone (b.atR a (.code (.exit id) :: k)) cs w)
  | .panic chain, a, w => ∃ todo, Steps P m (lone { b.atR a todo with mode := .panicking chain } cs w)
  | _, _, _ => False
theorem ArrR.of_steps {P : Program} {m m₁ : Machine} {b : Frame} {cs : List Frame} {e : Exit} {a : Act} {w : World} (h : Steps P m m₁) (h' : ArrR P m₁ b cs e a w) : ArrR P m b cs e a w := by
  cases e with
  | normal => exact h.trans h'
  | exit id => obtain ⟨k, h1, h2⟩ := h'; exact ⟨k, h1, h.trans h2⟩
  | goto l => exact h'
  | ret => obtain ⟨k, hs⟩ := h'; exact ⟨k, h.trans hs⟩
  | panic chain => obtain ⟨todo, hs⟩ := h'; exact ⟨todo, h.trans hs⟩
  | outgrown => exact h'
def QRel (C : Ctx) (L0 : Nat → Prop) (w0 : World) (μ0 : List Nat) (H0 : Heap) (Q : Post) (e : Exit) (a : Act) (w : World) : Prop :=
  ∃ x env H μ df, Q x env H df ∧ SR C L0 w μ H ∧ VRs w (forb L0 μ H) μ H env a.tmps.toList ∧ DfR w (forb L0 μ H) μ H df a.defers ∧ ExR w (forb L0 μ H) μ H x e ∧ Evo w0 w μ0 μ H0 H
structure ARun (C : Ctx) (Q : Post) (k : List Item) (env : List D) (H : Heap) (df : List ADef) : Prop where
  mk :: (out : ∀ (L0 : Nat → Prop) (w0 : World) (μ0 : List Nat) (H0 : Heap) (w : World) (μ : List Nat) (a : Act), SR C L0 w μ H → VRs w (forb L0 μ H) μ H env a.tmps.toList → DfR w (forb L0 μ H) μ H df a.defers →
    Evo w0 w μ0 μ H0 H → ∀ (b : Frame) (cs : List Frame), RdOk μ b Q.rd → ∃ e a' w', QRel C L0 w0 μ0 H0 Q e a' w' ∧ ArrR C.P (lone (b.atR a k) cs w) b cs e a' w')
section
variable {C : Ctx} {Q : Post} {k : List Item} {env : List D} {H : Heap} {df : List ADef}
theorem ARun.nil (h : Q .norm env H df) : ARun C Q [] env H df :=
  ⟨fun L0 w0 μ0 H0 w μ a hs hv hd he b cs _ => ⟨.normal, a, w, ⟨.norm, env, H, μ, df, h, hs, hv, hd, rfl, he⟩, Steps.refl _ _⟩⟩
theorem ARun.ret (h : Q .ret env H df) : ARun C Q (.code .ret :: k) env H df :=
  ⟨fun L0 w0 μ0 H0 w μ a hs hv hd he b cs _ => ⟨.ret, a, w, ⟨.ret, env, H, μ, df, h, hs, hv, hd, rfl, he⟩, k, Steps.refl _ _⟩⟩
theorem ZnK {k' : List Item} (hst : ∀ (b : Frame) (a : Act) (cs : List Frame) (w : World), step C.P (lone (b.atR a k) cs w) = .next (lone (b.atR a k') cs w)) (h : ARun C Q k' env H df) : ARun C Q k env H df :=
  ⟨fun L0 w0 μ0 H0 w μ a hs hv hd he b cs hb => by
    obtain ⟨e, a', w', h1, h2⟩ := h.out L0 w0 μ0 H0 w μ a hs hv hd he b cs hb
    exact ⟨e, a', w', h1, .of_steps (.one (hst b a cs w)) h2⟩⟩
theorem ARun.skip (h : ARun C Q k env H df) : ARun C Q (.code .skip :: k) env H df := ZnK (fun _ _ _ _ => stepR_skip) h
theorem ARun.seq {x y : Code} (h : ARun C Q (.code x :: .code y :: k) env H df) : ARun C Q (.code (.seq x y) :: k) env H df := ZnK (fun _ _ _ _ => stepR_seq) h
theorem ARun.block {id : Nat} {c : Code} (h : ARun C Q (.code c :: .inBlock id :: k) env H df) : ARun C Q (.code (.block id c) :: k) env H df := ZnK (fun _ _ _ _ => stepR_block) h
theorem ARun.inBlock {id : Nat} (h : ARun C Q k env H df) : ARun C Q (.inBlock id :: k) env H df := ZnK (fun _ _ _ _ => stepR_inBlock) h
theorem ARun.loop {c : Code} (h : ARun C Q (.code c :: .inLoop c :: k) env H df) : ARun C Q (.code (.loop c) :: k) env H df := ZnK (fun _ _ _ _ => stepR_loop) h
theorem ARun.inLoop {c : Code} (h : ARun C Q (.code c :: .inLoop c :: k) env H df) : ARun C Q (.inLoop c :: k) env H df := ZnK (fun _ _ _ _ => stepR_inLoop) h
theorem ARun.exit {id : Nat} {k' : List Item} (hx : exitTo id k = some k') (h : ARun C Q k' env H df) : ARun C Q (.code (.exit id) :: k) env H df := ZnK (fun _ _ _ _ => stepR_exit hx) h
end
def ZbU : Value → Option D
  | .int k n => some (.int k n)
  | .bool b => some (.bool b)
  | .string s => some (.str s)
  | .slice none 0 0 => some .nilsl
  | .pointer none => some .nilptr
  | .nilFunc => some .nilfn
  | .nilIface => some .niliface
  | _ => none
def ZfF : List Value → Option (List D)
  | [] => some []
  | v :: vs => match ZbU v, ZfF vs with
    | some d, some ds => some (d :: ds)
    | _, _ => none
def Zas : Value → Option D
  | .agg cs => match ZfF cs.toList with
    | some ds => some (.agg ds)
    | none => none
  | .tuple cs => match cs.toList with
    | [] => some (.tup [])
    | _ => none
  | v => ZbU v
def glob? (gl : List (Nat × List D)) (g : Nat) : Option (List D) :=
  match gl with
  | [] => none
  | (g', cs) :: r => if g' = g then some cs else glob? r g
theorem glob?_mem : ∀ {gl : List (Nat × List D)} {g : Nat} {cs : List D}, glob? gl g = some cs → (g, cs) ∈ gl
  | [], _, _, h => by simp [glob?] at h
  | (g', cs') :: r, g, cs, h => by
    simp only [glob?] at h
    split at h
    · rename_i e; injection h with h; subst h; subst e; simp
    exact List.mem_cons_of_mem _ (glob?_mem h)
def evO (C : Ctx) (env : List D) : Operand → Option D
  | .tmp t => env[t]?
  | .const v => Zas v
  | .global g => match glob? C.gl g with
    | some cs => some (.sptr cs)
    | none => none
  | .func f => some (.clos f [])
theorem Zfb {w : World} {L : Nat → Prop} {μ : List Nat} {H : Heap} {v : Value} {d : D} (h : ZbU v = some d) : VR w L μ H d v := by
  unfold ZbU at h
  split at h <;> first | (injection h with h; subst h; simp [VR]) | (cases h)
theorem ZfG {w : World} {L : Nat → Prop} {μ : List Nat} {H : Heap} : ∀ {vs : List Value} {ds : List D}, ZfF vs = some ds → VRs w L μ H ds vs
  | [], ds, h => by simp only [ZfF] at h; injection h with h; subst h; simp [VRs]
  | v :: vs, ds, h => by
    simp only [ZfF] at h
    split at h
    · rename_i d ds' h1 h2
      injection h with h; subst h
      simp only [VRs];exact ⟨v, vs, rfl, Zfb h1, ZfG h2⟩
    cases h
theorem ZaZ {w : World} {L : Nat → Prop} {μ : List Nat} {H : Heap} {v : Value} {d : D} (h : Zas v = some d) : VR w L μ H d v := by
  unfold Zas at h
  split at h
  · rename_i cs
    split at h
    · rename_i ds hs
      injection h with h; subst h
      simp only [VR];exact ⟨cs.toList, by simp, ZfG hs⟩
    cases h
  · rename_i cs
    split at h
    · rename_i hs
      injection h with h; subst h
      simp only [VR];refine ⟨[], ?_, by simp [VRs]⟩
      have : cs = #[] := by cases cs; simp at hs; simp [hs]
      rw [this]
    cases h
  exact Zfb h
theorem Zch {a : Array Value} {t : Nat} {v : Value} (h : a.toList[t]? = some v) : a.getD t undef = v := by
  have : a[t]? = some v := by simpa using h
  simp [Array.getD_eq_getD_getElem?, this]
theorem Zap {C : Ctx} {L0 : Nat → Prop} {w : World} {μ : List Nat} {H : Heap} (hs : SR C L0 w μ H) {env : List D} {a : Act} (hv : VRs w (forb L0 μ H) μ H env a.tmps.toList) {x : Operand} {d : D} (h : evO C env x = some d) :
    VR w (forb L0 μ H) μ H d (a.eval x) := by
  cases x with
  | tmp t =>
    simp only [evO] at h;obtain ⟨v, h1, h2⟩ := Z2 hv h;simp only [Act.eval];rw [Zch h1];exact h2
  | const v => exact ZaZ h
  | global g =>
    simp only [evO] at h
    split at h
    · rename_i cs hg
      injection h with h; subst h
      obtain ⟨h1, h2, h3⟩ := hs.glob g cs (glob?_mem hg);simp only [VR, Act.eval];exact ⟨⟨g, 0, none⟩, rfl, h1, h2, h3.1⟩
    cases h
  | func f =>
    simp only [evO] at h
    injection h with h; subst h
    simp only [VR, Act.eval];exact ⟨[], rfl, by simp [VRs]⟩
def evOs (C : Ctx) (env : List D) : List Operand → Option (List D)
  | [] => some []
  | x :: xs => match evO C env x, evOs C env xs with
    | some d, some ds => some (d :: ds)
    | _, _ => none
theorem Zfc {C : Ctx} {L0 : Nat → Prop} {w : World} {μ : List Nat} {H : Heap} (hs : SR C L0 w μ H) {env : List D} {a : Act} (hv : VRs w (forb L0 μ H) μ H env a.tmps.toList) : ∀ {xs : List Operand} {ds : List D}, evOs C env xs = some ds →
    VRs w (forb L0 μ H) μ H ds (xs.map a.eval)
  | [], ds, h => by simp only [evOs] at h; injection h with h; subst h; simp [VRs]
  | x :: xs, ds, h => by
    simp only [evOs] at h
    split at h
    · rename_i d ds' h1 h2
      injection h with h; subst h
      simp only [VRs, List.map_cons];exact ⟨_, _, rfl, Zap hs hv h1, Zfc hs hv h2⟩
    cases h
def Zu (env : List D) (dst : Option Tmp) (d : D) : List D :=
  match dst with
  | some t => env.set t d
  | none => env
theorem ZiA {w : World} {L : Nat → Prop} {μ : List Nat} {H : Heap} {d : D} {v : Value} (hd : VR w L μ H d v) : ∀ {ds : List D} {vs : List Value} {t : Nat}, VRs w L μ H ds vs → VRs w L μ H (ds.set t d) (vs.set t v)
  | [], vs, t, h => by simp only [VRs] at h; subst h; simp [VRs]
  | c :: ds, vs, t, h => by
    simp only [VRs] at h;obtain ⟨u, us, rfl, h1, h2⟩ := h
    cases t with
    | zero => simp only [List.set_cons_zero, VRs]; exact ⟨v, us, rfl, hd, h2⟩
    | succ t => simp only [List.set_cons_succ, VRs]; exact ⟨u, us.set t v, rfl, h1, ZiA hd h2⟩
theorem ZbL {w : World} {L : Nat → Prop} {μ : List Nat} {H : Heap} {env : List D} {a : Act} (h : VRs w L μ H env a.tmps.toList) {dst : Option Tmp} {d : D} {v : Value} (hd : VR w L μ H d v) :
    VRs w L μ H (Zu env dst d) (a.put dst v).tmps.toList := by
  cases dst with
  | none => exact h
  | some t =>
    simp only [Zu, Act.put, Array.toList_setIfInBounds];exact ZiA hd h
theorem ZaB (a : Act) (dst : Option Tmp) (v : Value) : (a.put dst v).defers = a.defers := by cases dst <;> rfl
structure AOps (C : Ctx) (Q : Post) (ops : Array Oper) (l : List Oper) (k : List Item) (env : List D) (H : Heap) (df : List ADef) : Prop where
  mk :: (out : ∀ i : Nat, ops.toList.drop i = l → ARun C Q (.inRegion ops (List.range' i l.length) :: k) env H df)
theorem ARun.region {C : Ctx} {Q : Post} {k : List Item} {env : List D} {H : Heap} {df : List ADef} {id : Nat} {l : List Oper} (h : AOps C Q l.toArray l k env H df) : ARun C Q (.code (.region id l.toArray false) :: k) env H df :=
  ZnK (k' := .inRegion l.toArray (List.range l.toArray.size) :: k) (fun _ _ _ _ => stepR_region) (by
    have := h.out 0 (by simp);rw [List.range_eq_range']
    simpa using this)
theorem AOps.nil {C : Ctx} {Q : Post} {k : List Item} {env : List D} {H : Heap} {df : List ADef} {ops : Array Oper} (h : ARun C Q k env H df) : AOps C Q ops [] k env H df :=
  ⟨fun i _ => ZnK (fun _ _ _ _ => stepR_region_end) h⟩
theorem ZeM {P : Program} {ro : Option Nat} {ρ : Operand → Value} {o : Oper} {w : World} (h : ∀ d w', (execOp ρ o).run P w ≠ .ok (.defer d) w') : (o.semAt ro ρ).run P w = (execOp ρ o).run P w := by
  obtain ⟨dst, op, ty, pos, aft, gd⟩ := o
  cases ro with
  | none => rfl
  | some l =>
    by_cases hd : ∃ c, op = .defer c
    · obtain ⟨c, rfl⟩ := hd
      simp only [Oper.semAt];simp only [execOp, Sem.run_bind] at h ⊢
      cases hr : (resolve ρ c ty).run P w with
      | ok d w1 => rw [hr] at h; simp at h
      | halt x w1 => simp
    rw [Oper.semAt_eq (some l) ρ _ (fun c e => hd ⟨c, e⟩)]
theorem Zdj {P : Program} {ops : Array Oper} {i : Nat} {rest : List Nat} {o : Oper} {a : Act} {w : World} {next : Act → World → Prop} {Q : Exit → Act → World → Prop}
    (ho : ops[i]? = some o) (hw : Region.wanted o (yielded ops a.tmps) = true) (h : o.wp P a w next Q) (hout : ¬ LetsOut Q) (b : Frame) (hdf : b.roundOf = none ∨ ∀ d w', ¬ next (({ a with defers := d :: a.defers } : Act).put o.dst undef) w') (k : List Item) (cs : List Frame) :
    (∃ a' w', next a' w' ∧ Steps P (lone (b.atR a (.inRegion ops (i :: rest) :: k)) cs w) (lone (b.atR a' (.inRegion ops rest :: k)) cs w')) ∨
    (∃ chain w' todo, Q (.panic chain) a w' ∧ Steps P (lone (b.atR a (.inRegion ops (i :: rest) :: k)) cs w) (lone { b.atR a todo with mode := .panicking chain } cs w')) := by
  simp only [Oper.wp, Oper.upon] at h;have hg := stepGR_op (P := P) (b := b) (k := k) (cs := cs) (w := w) (rest := rest) ho hw
  have hfin : ∀ v, (b.atR a (.inRegion ops (i :: rest) :: k)).finish v = b.atR (a.put o.dst v) (.inRegion ops rest :: k) := by
    intro v; rw [Frame.finish_atR, ho]; rfl
  split at h
  · rename_i v w' hr
    have hr' := (ZeM (ro := b.roundOf) (P := P) (ρ := a.eval) (o := o) (w := w) (by rw [hr]; intro d w'; simp)).trans hr;refine .inl ⟨_, _, h, .one (step_lone_go ?_)⟩;rw [hg, ← hfin]; simp [stepG.apply, hr']
  · rename_i w' hr
    have hr' := (ZeM (ro := b.roundOf) (P := P) (ρ := a.eval) (o := o) (w := w) (by rw [hr]; intro d w'; simp)).trans hr;refine .inl ⟨_, _, h, .one (step_lone_go ?_)⟩;rw [hg, ← hfin]; simp [stepG.apply, hr']
  · rename_i d w' hr
    have hro : b.roundOf = none := hdf.resolve_right (fun hn => hn _ _ h)
    have hr' : (o.semAt b.roundOf a.eval).run P w = .ok (.defer d) w' := by rw [hro]; exact hr
    refine .inl ⟨_, _, h, .one (step_lone_go ?_)⟩
    have : ({ b.atR a (.inRegion ops (i :: rest) :: k) with defers := d :: a.defers } : Frame).finish undef =
        b.atR ({ a with defers := d :: a.defers }.put o.dst undef) (.inRegion ops rest :: k) := by
      have := Frame.finish_atR b { a with defers := d :: a.defers } ops i rest k undef;rw [ho] at this; exact this
    rw [hg]; simp only [stepG.apply, Sem.runT_eq, hr', GStep.bare_after];exact congrArg (fun fr => GStep.go { frame := fr, callers := cs, status := .running, dying := none } w') this
  · rename_i f args w' hr
    have hr' := (ZeM (ro := b.roundOf) (P := P) (ρ := a.eval) (o := o) (w := w) (by rw [hr]; intro d w'; simp)).trans hr;obtain ⟨e, w'', fr, hR, hsteps, _, hleave⟩ := h (b.atR a (.inRegion ops (i :: rest) :: k) :: cs)
    have henter : step P (lone (b.atR a (.inRegion ops (i :: rest) :: k)) cs w) =
        .next (lone (Frame.enter P f args .normal) (b.atR a (.inRegion ops (i :: rest) :: k) :: cs) w') :=
      step_lone_go (by rw [hg]; simp [stepG.apply, hr', Frame.atR])
    cases e with
    | returned v =>
      refine .inl ⟨_, _, hR, .head henter (hsteps.trans (.one ?_))⟩;rw [← hfin]; exact step_leave_returned hleave
    | panicked chain =>
      refine .inr ⟨chain, w'', .inRegion ops (i :: rest) :: k, hR, .head henter (hsteps.trans (.one ?_))⟩;rw [← Frame.raise_atR]; exact step_leave_panicked hleave
    | outgrown => exact (hout hR).elim
  · rename_i row args w' hr
    have hr' := (ZeM (ro := b.roundOf) (P := P) (ρ := a.eval) (o := o) (w := w) (by rw [hr]; intro d w'; simp)).trans hr;obtain ⟨v, w'', hR, hsteps⟩ := h (b.atR a (.inRegion ops (i :: rest) :: k)) cs
    have henter : step P (lone (b.atR a (.inRegion ops (i :: rest) :: k)) cs w) =
        .next (lone (Frame.ofRow P row args .normal) (b.atR a (.inRegion ops (i :: rest) :: k) :: cs) w') :=
      step_lone_go (by rw [hg]; simp [stepG.apply, hr', Frame.atR])
    refine .inl ⟨_, _, hR, .head henter ?_⟩;rw [← hfin]; exact hsteps
  · rename_i v w' hr
    have hr' := (ZeM (ro := b.roundOf) (P := P) (ρ := a.eval) (o := o) (w := w) (by rw [hr]; intro d w'; simp)).trans hr;refine .inr ⟨_, w', .inRegion ops (i :: rest) :: k, h, .one (step_lone_go ?_)⟩;rw [hg, ← Frame.raise_atR]; simp [stepG.apply, hr']
  exact h.elim
structure OpH (C : Ctx) (o : Oper) (env : List D) (H : Heap) (K KP : D → Heap → Prop) : Prop where
  mk :: (out : ∀ (L0 : Nat → Prop) (w : World) (μ : List Nat) (a : Act), SR C L0 w μ H → VRs w (forb L0 μ H) μ H env a.tmps.toList →
    o.wp C.P a w (fun a' w' => ∃ v d H' μ', K d H' ∧ a' = a.put o.dst v ∧ SR C L0 w' μ' H' ∧ VR w' (forb L0 μ' H') μ' H' d v ∧ Evo w w' μ μ' H H')
      (fun e a' w' => ∃ v d H' μ', e = .panic (pan1 v) ∧ a' = a ∧ KP d H' ∧ SR C L0 w' μ' H' ∧ VR w' (forb L0 μ' H') μ' H' d v ∧ Evo w w' μ μ' H H'))
def OpQ (C : Ctx) (o : Oper) (env : List D) (H : Heap) (d : D) : Prop := OpH C o env H (fun d' H' => d' = d ∧ H' = H) (fun _ _ => False)
def gOk (ops : List Oper) (env : List D) : Option (Nat × Bool) → Option Bool
  | none => some true
  | some (j, want) => match ops[j]? with
    | some o => match o.dst with
      | some t => match env[t]? with
        | some (.bool b) => some (b == want)
        | some (.tup []) => some false
        | _ => none
      | none => none
    | none => none
theorem Zet {C : Ctx} {w : World} {L : Nat → Prop} {μ : List Nat} {H : Heap} {env : List D} {a : Act} (hv : VRs w L μ H env a.tmps.toList) {ops : Array Oper} {o : Oper} {r : Bool} (h : gOk ops.toList env o.guard = some r) :
    Region.wanted o (yielded ops a.tmps) = r := by
  unfold gOk at h;unfold Region.wanted
  cases hg : o.guard with
  | none => rw [hg] at h; simpa using h
  | some p =>
    obtain ⟨j, want⟩ := p;rw [hg] at h;simp only at h ⊢
    cases ho : ops.toList[j]? with
    | none => rw [ho] at h; simp at h
    | some oj =>
      rw [ho] at h;simp only at h
      have ho' : ops[j]? = some oj := by simpa using ho
      cases hd : oj.dst with
      | none => rw [hd] at h; simp at h
      | some t =>
        rw [hd] at h;simp only at h
        split at h
        · rename_i b hb
          obtain ⟨v, h1, h2⟩ := Z2 hv hb;simp only [VR] at h2;subst h2
          have h1' : a.tmps[t]? = some (.bool b) := by simpa using h1
          simp only [yielded, ho', hd, Option.bind_some, h1']
          injection h with h
        · rename_i hb
          obtain ⟨v, h1, h2⟩ := Z2 hv hb;simp only [VR, VRs] at h2;obtain ⟨vs, rfl, rfl⟩ := h2
          have h1' : a.tmps[t]? = some (.tuple #[]) := by simpa using h1
          simp only [yielded, ho', hd, Option.bind_some, h1']
          injection h with h
        cases h
section
variable {C : Ctx} {Q : Post} {ops : Array Oper} {rest : List Oper} {k : List Item} {env : List D} {H : Heap} {df : List ADef} {o : Oper}
theorem Zd6 {l : List Oper} {i : Nat} {o : Oper} {rest : List Oper} (h : l.drop i = o :: rest) : l[i]? = some o := by
  have := congrArg (·[0]?) h
  simpa using this
theorem Zda {l : List Oper} {i : Nat} {o : Oper} {rest : List Oper} (h : l.drop i = o :: rest) : l.drop (i + 1) = rest := by
  have := congrArg (List.drop 1) h
  simpa [List.drop_drop, Nat.add_comm] using this
theorem Zdq {a : Act} {dst : Option Tmp} {d : Deferred} {v : Value} (h : ({ a with defers := d :: a.defers } : Act).put dst undef = a.put dst v) : False := by
  have := congrArg Act.defers h;rw [ZaB, ZaB] at this;exact List.cons_ne_self _ _ this
theorem ZnO {K KP : D → Heap → Prop} (hg : gOk ops.toList env o.guard = some true) (h : OpH C o env H K KP) (hk : ∀ d H', K d H' → AOps C Q ops rest k (Zu env o.dst d) H' df) (hp : ∀ d H', KP d H' → Q (.pan d) env H' df) :
    AOps C Q ops (o :: rest) k env H df := by
  refine ⟨fun i hi => ⟨fun L0 w0 μ0 H0 w μ a hs hv hd he b cs hrd => ?_⟩⟩
  have ho : ops[i]? = some o := by have := Zd6 hi; simpa using this
  have hw := Zet (C := C) hv hg;have h1 := h.out L0 w μ a hs hv;rw [List.length_cons, List.range'_succ]
  rcases Zdj (rest := List.range' (i + 1) rest.length) ho hw h1 (by rintro ⟨a0, w1, v, d, H', μ', h2, _⟩; cases h2) b (.inr fun dd w' ⟨v, d, H', μ', _, h2, _⟩ => Zdq h2) k cs with
    ⟨a', w', ⟨v, d, H', μ', hK, rfl, hs', hd', he'⟩, hst⟩ | ⟨chain, w', todo, ⟨v, d, H', μ', hch, _, hK, hs', hd', he'⟩, hst⟩
  · have hst' := he'.step L0
    have h2 := ((hk d H' hK).out (i + 1) (Zda hi)).out L0 w0 μ0 H0 w' μ' (a.put o.dst v) hs' (ZbL (VRs.step hst' hv) hd') (by rw [ZaB]; exact DfR.step hst' hd) (he.trans he') b cs (hrd.step he'.map);obtain ⟨e, a', w'', h3, h4⟩ := h2;exact ⟨e, a', w'', h3, .of_steps hst h4⟩
  have hst' := he'.step L0
  injection hch with hch
  subst hch;exact ⟨.panic (pan1 v), a, w', ⟨.pan d, env, H', μ', df, hp d H' hK, hs', VRs.step hst' hv, DfR.step hst' hd, ⟨v, rfl, hd'⟩, he.trans he'⟩, todo, hst⟩
theorem AOps.op {d : D} (hg : gOk ops.toList env o.guard = some true) (h : OpQ C o env H d) (hk : AOps C Q ops rest k (Zu env o.dst d) H df) : AOps C Q ops (o :: rest) k env H df :=
  ZnO hg h (fun d' H' ⟨h1, h2⟩ => by subst h1; subst h2; exact hk) (fun _ _ h => h.elim)
theorem AOps.skip (hg : gOk ops.toList env o.guard = some false) (hk : AOps C Q ops rest k (Zu env o.dst (.tup [])) H df) : AOps C Q ops (o :: rest) k env H df := by
  refine ⟨fun i hi => ⟨fun L0 w0 μ0 H0 w μ a hs hv hd he b cs hrd => ?_⟩⟩
  have ho : ops[i]? = some o := by have := Zd6 hi; simpa using this
  have hw := Zet (C := C) hv hg;rw [List.length_cons, List.range'_succ];have hst := stepR_op_skip (P := C.P) (b := b) (a := a) (k := k) (cs := cs) (w := w) (ops := ops) (i := i) (rest := List.range' (i + 1) rest.length) (by simp [ho, hw]);simp only [ho, Option.bind_some] at hst;have h2 := (hk.out (i + 1) (Zda hi)).out L0 w0 μ0 H0 w μ (a.put o.dst undef) hs (ZbL hv (by simp only [VR]; exact ⟨[], rfl, by simp [VRs]⟩)) (by rw [ZaB]; exact hd) he b cs hrd;obtain ⟨e, a', w'', h3, h4⟩ := h2;exact ⟨e, a', w'', h3, .of_steps (.one hst) h4⟩
theorem ARun.cond {c : Operand} {x y : Code} {t : Bool} (hc : evO C env c = some (.bool t)) (hx : t = true → ARun C Q (.code x :: k) env H df) (hy : t = false → ARun C Q (.code y :: k) env H df) : ARun C Q (.code (.cond c x y) :: k) env H df := by
  refine ⟨fun L0 w0 μ0 H0 w μ a hs hv hd he b cs hrd => ?_⟩;have h1 := Zap hs hv hc;simp only [VR] at h1
  cases t with
  | true =>
    obtain ⟨e, a', w', h3, h4⟩ := (hx rfl).out L0 w0 μ0 H0 w μ a hs hv hd he b cs hrd;exact ⟨e, a', w', h3, .of_steps (.one (stepR_cond h1)) h4⟩
  | false =>
    obtain ⟨e, a', w', h3, h4⟩ := (hy rfl).out L0 w0 μ0 H0 w μ a hs hv hd he b cs hrd;exact ⟨e, a', w', h3, .of_steps (.one (stepR_cond h1)) h4⟩
end
structure TI (P : Program) (t : TypeId) (desc : TypeDesc) (size bytes : Nat) (zero : Value) : Prop where
  un : P.underlying t = some desc
  info : (P.info? t).map (fun i => (i.size, i.bytes, i.zero)) = some (size, bytes, some zero)
theorem TI.infos {P : Program} {t : TypeId} {desc : TypeDesc} {size bytes : Nat} {zero : Value} (h : TI P t desc size bytes zero) : ∃ i, P.info? t = some i ∧ i.size = size ∧ i.bytes = bytes ∧ i.zero = some zero := by
  have := h.info
  cases hi : P.info? t with
  | none => simp [hi] at this
  | some i => simp [hi] at this; exact ⟨i, rfl, this.1, this.2.1, this.2.2⟩
theorem TI.run_un {P : Program} {t : TypeId} {desc : TypeDesc} {size bytes : Nat} {zero : Value} (h : TI P t desc size bytes zero) (w : World) : (underlying t).run P w = .ok desc w := run_underlying h.un w
theorem TI.run_size {P : Program} {t : TypeId} {desc : TypeDesc} {size bytes : Nat} {zero : Value} (h : TI P t desc size bytes zero) (w : World) : (sizeOf t).run P w = .ok size w := by
  obtain ⟨i, h1, h2, _⟩ := h.infos;simp [sizeOf, typeInfo, h1, h2]
theorem TI.run_zero {P : Program} {t : TypeId} {desc : TypeDesc} {size bytes : Nat} {zero : Value} (h : TI P t desc size bytes zero) (w : World) : (zeroValue t).run P w = .ok zero w := by
  obtain ⟨i, h1, h2, _, h4⟩ := h.infos;simp [zeroValue, typeInfo, h1, h4]
def UN (C : Ctx) (t : TypeId) (d : TypeDesc) : Prop := C.P.underlying t = some d
def TIC (C : Ctx) (t : TypeId) (desc : TypeDesc) (size bytes : Nat) (zero : Value) : Prop := TI C.P t desc size bytes zero
def CON (C : Ctx) (t : TypeId) : Prop := C.P.concrete t = true
section
variable {C : Ctx} {env : List D} {H : Heap} {dst : Option Tmp} {ty : TypeId} {pos : String} {aft : Array Edge} {gd : Option (Nat × Bool)} {x y z : Operand} {d : D}
theorem OpQ.of_run {o : Oper} (h : ∀ (L : Nat → Prop) (w : World) (μ : List Nat) (a : Act), (∀ x d, evO C env x = some d → VR w L μ H d (a.eval x)) → ∃ v, (execOp a.eval o).run C.P w = .ok (.value v) w ∧ VR w L μ H d v) : OpQ C o env H d := by
  refine ⟨fun L0 w μ a hs hv => ?_⟩;obtain ⟨v, h1, h2⟩ := h (forb L0 μ H) w μ a (fun x d hx => Zap hs hv hx);unfold Oper.wp;rw [h1];exact ⟨v, d, H, μ, ⟨rfl, rfl⟩, rfl, hs, h2, Evo.refl _ _ _⟩
theorem o_move (h : evO C env x = some d) : OpQ C ⟨dst, .move x, ty, pos, aft, gd⟩ env H d :=
  OpQ.of_run fun L w μ a hx => ⟨a.eval x, by simp [execOp], hx x d h⟩
theorem ZmD (h : evO C env x = some d) : OpQ C ⟨dst, .assign x, ty, pos, aft, gd⟩ env H d :=
  OpQ.of_run fun L w μ a hx => ⟨a.eval x, by simp [execOp], hx x d h⟩
theorem o_pick {b : Bool} {d1 d2 : D} (h : evO C env x = some (.bool b)) (h1 : evO C env y = some d1) (h2 : evO C env z = some d2) : OpQ C ⟨dst, .pick x y z, ty, pos, aft, gd⟩ env H (if b then d1 else d2) :=
  OpQ.of_run fun L w μ a hx => by
    have e := hx _ _ h;simp only [VR] at e;refine ⟨if b then a.eval y else a.eval z, ?_, ?_⟩
    · simp only [execOp, e, asBool, Sem.run_bind, Sem.run_pure, Result.andThen_ok]
    cases b
    · exact hx _ _ h2
    exact hx _ _ h1
def ZfH (op : BinOp) (k : IntKind) (m n : Int) : Option D :=
  match op with
  | .add => some (.int k (k.wrap (m + n)))
  | .sub => some (.int k (k.wrap (m - n)))
  | .mul => some (.int k (k.wrap (m * n)))
  | .and => some (.int k (k.wrap (BitVec.ofInt k.bits m &&& BitVec.ofInt k.bits n).toNat))
  | .or => some (.int k (k.wrap (BitVec.ofInt k.bits m ||| BitVec.ofInt k.bits n).toNat))
  | .xor => some (.int k (k.wrap (BitVec.ofInt k.bits m ^^^ BitVec.ofInt k.bits n).toNat))
  | .andNot => some (.int k (k.wrap (BitVec.ofInt k.bits m &&& ~~~BitVec.ofInt k.bits n).toNat))
  | .eql => some (.bool (m == n))
  | .neq => some (.bool (m != n))
  | .lss => some (.bool (decide (m < n)))
  | .leq => some (.bool (decide (m ≤ n)))
  | .gtr => some (.bool (decide (m > n)))
  | .geq => some (.bool (decide (m ≥ n)))
  | _ => none
theorem ZbP {P : Program} {w : World} {op : BinOp} {t : TypeId} {k : IntKind} {m n : Int} {k' : IntKind} : (eqGuard op t x y (.int k m) (.int k' n)).run P w = .ok () w := by
  unfold eqGuard;simp only [Sem.run_bind]
  split <;> simp
theorem o_int {op : BinOp} {k : IntKind} {m n : Int} {xt yt : TypeId} (hx : evO C env x = some (.int k m)) (hy : evO C env y = some (.int k n)) (h : ZfH op k m n = some d) : OpQ C ⟨dst, .binOp op xt x y yt, ty, pos, aft, gd⟩ env H d :=
  OpQ.of_run fun L w μ a he => by
    have ex := he _ _ hx;have ey := he _ _ hy;simp only [VR] at ex ey;simp only [execOp, ex, ey, Sem.run_bind, ZbP, Result.andThen_ok]
    cases op <;> simp only [ZfH] at h <;> first | (cases h; done) | (injection h with h; subst h; refine ⟨_, ?_, by simp only [VR]; rfl⟩; simp only [binOp, Op.intArith, Op.intBits, Op.intCmp, ne_eq, not_true_eq_false, if_false, Sem.run_bind, Sem.run_pure, Result.andThen_ok])
theorem o_add {k : IntKind} {m n : Int} {xt yt : TypeId} (hx : evO C env x = some (.int k m)) (hy : evO C env y = some (.int k n)) {r : Int} (h : k.wrap (m + n) = r) : OpQ C ⟨dst, .binOp .add xt x y yt, ty, pos, aft, gd⟩ env H (.int k r) :=
  o_int hx hy (by simp [ZfH, h])
theorem o_sub {k : IntKind} {m n : Int} {xt yt : TypeId} (hx : evO C env x = some (.int k m)) (hy : evO C env y = some (.int k n)) {r : Int} (h : k.wrap (m - n) = r) : OpQ C ⟨dst, .binOp .sub xt x y yt, ty, pos, aft, gd⟩ env H (.int k r) :=
  o_int hx hy (by simp [ZfH, h])
theorem o_mul {k : IntKind} {m n : Int} {xt yt : TypeId} (hx : evO C env x = some (.int k m)) (hy : evO C env y = some (.int k n)) {r : Int} (h : k.wrap (m * n) = r) : OpQ C ⟨dst, .binOp .mul xt x y yt, ty, pos, aft, gd⟩ env H (.int k r) :=
  o_int hx hy (by simp [ZfH, h])
theorem o_quo {k : IntKind} {m n : Int} {xt yt : TypeId} (hx : evO C env x = some (.int k m)) (hy : evO C env y = some (.int k n)) (h0 : n ≠ 0) {r : Int} (hr : k.wrap (m.tdiv n) = r) : OpQ C ⟨dst, .binOp .quo xt x y yt, ty, pos, aft, gd⟩ env H (.int k r) :=
  OpQ.of_run fun L w μ a he => by
    have ex := he _ _ hx;have ey := he _ _ hy;simp only [VR] at ex ey;simp only [execOp, ex, ey, Sem.run_bind, ZbP, Result.andThen_ok];refine ⟨_, ?_, by simp only [VR]; rfl⟩;simp [binOp, Op.intDiv, h0, hr]
theorem o_rem {k : IntKind} {m n : Int} {xt yt : TypeId} (hx : evO C env x = some (.int k m)) (hy : evO C env y = some (.int k n)) (h0 : n ≠ 0) {r : Int} (hr : m.tmod n = r) : OpQ C ⟨dst, .binOp .rem xt x y yt, ty, pos, aft, gd⟩ env H (.int k r) :=
  OpQ.of_run fun L w μ a he => by
    have ex := he _ _ hx;have ey := he _ _ hy;simp only [VR] at ex ey;simp only [execOp, ex, ey, Sem.run_bind, ZbP, Result.andThen_ok];refine ⟨_, ?_, by simp only [VR]; rfl⟩;simp [binOp, Op.intDiv, h0, hr]
theorem o_shl {k k' : IntKind} {m n : Int} {xt yt : TypeId} (hx : evO C env x = some (.int k m)) (hy : evO C env y = some (.int k' n)) (h0 : 0 ≤ n) {r : Int} (hr : k.wrap (m * 2 ^ min n.toNat k.bits) = r) : OpQ C ⟨dst, .binOp .shl xt x y yt, ty, pos, aft, gd⟩ env H (.int k r) :=
  OpQ.of_run fun L w μ a he => by
    have ex := he _ _ hx;have ey := he _ _ hy;simp only [VR] at ex ey;simp only [execOp, ex, ey, Sem.run_bind, ZbP, Result.andThen_ok];refine ⟨_, ?_, by simp only [VR]; rfl⟩;simp [binOp, Op.shift, show ¬ n < 0 by omega, hr]
theorem o_shr {k k' : IntKind} {m n : Int} {xt yt : TypeId} (hx : evO C env x = some (.int k m)) (hy : evO C env y = some (.int k' n)) (h0 : 0 ≤ n) {r : Int} (hr : m.fdiv (2 ^ min n.toNat k.bits) = r) : OpQ C ⟨dst, .binOp .shr xt x y yt, ty, pos, aft, gd⟩ env H (.int k r) :=
  OpQ.of_run fun L w μ a he => by
    have ex := he _ _ hx;have ey := he _ _ hy;simp only [VR] at ex ey;simp only [execOp, ex, ey, Sem.run_bind, ZbP, Result.andThen_ok];refine ⟨_, ?_, by simp only [VR]; rfl⟩;simp [binOp, Op.shift, show ¬ n < 0 by omega, hr]
theorem o_neg {k : IntKind} {m : Int} {xt : TypeId} (hx : evO C env x = some (.int k m)) {r : Int} (hr : k.wrap (0 - m) = r) : OpQ C ⟨dst, .unOp .neg xt x, ty, pos, aft, gd⟩ env H (.int k r) :=
  OpQ.of_run fun L w μ a he => by
    have ex := he _ _ hx;simp only [VR] at ex;refine ⟨_, ?_, by simp only [VR]; rfl⟩;simp only [execOp, ex, Op.unary, Op.intArith, hr, Sem.run_bind, Sem.run_pure, Result.andThen_ok]
theorem o_not {b : Bool} {xt : TypeId} (hx : evO C env x = some (.bool b)) : OpQ C ⟨dst, .unOp .not xt x, ty, pos, aft, gd⟩ env H (.bool (!b)) :=
  OpQ.of_run fun L w μ a he => by
    have ex := he _ _ hx;simp only [VR] at ex;refine ⟨_, ?_, by simp only [VR]; rfl⟩;simp only [execOp, ex]; simp [Op.unary]
theorem Zme {k k' : IntKind} {m : Int} {s t : TypeId} {ds : TypeDesc} (hs : UN C s ds) (ht : UN C t (.int k')) (hx : evO C env x = some (.int k m)) {r : Int} (hr : k'.wrap m = r) : OpQ C ⟨dst, .convert s t x, ty, pos, aft, gd⟩ env H (.int k' r) :=
  OpQ.of_run fun L w μ a he => by
    have ex := he _ _ hx;simp only [VR] at ex;refine ⟨_, ?_, by simp only [VR]; rfl⟩;simp only [execOp, ex]; simp [convert, run_underlying hs, run_underlying ht, Conv.intToInt, hr]
theorem ZeN {P : Program} {w : World} {op : BinOp} {t : TypeId} {m n : Bool} : (eqGuard op t x y (.bool m) (.bool n)).run P w = .ok () w := by
  unfold eqGuard;simp only [Sem.run_bind]
  split <;> simp
theorem ZmE {s t : Bool} {xt yt : TypeId} (ht : UN C xt .bool) (hx : evO C env x = some (.bool s)) (hy : evO C env y = some (.bool t)) : OpQ C ⟨dst, .binOp .eql xt x y yt, ty, pos, aft, gd⟩ env H (.bool (s == t)) :=
  OpQ.of_run fun L w μ a he => by
    have ex := he _ _ hx;have ey := he _ _ hy;simp only [VR] at ex ey;refine ⟨_, ?_, by simp only [VR]; rfl⟩;simp only [execOp, ex, ey, Sem.run_bind, ZeN, Result.andThen_ok]; simp only [binOp, Sem.run_bind, run_equal_bool _ _ _ _ ht, Result.andThen_ok, Sem.run_pure]
theorem ZmF {s t : Bool} {xt yt : TypeId} (ht : UN C xt .bool) (hx : evO C env x = some (.bool s)) (hy : evO C env y = some (.bool t)) : OpQ C ⟨dst, .binOp .neq xt x y yt, ty, pos, aft, gd⟩ env H (.bool (!(s == t))) :=
  OpQ.of_run fun L w μ a he => by
    have ex := he _ _ hx;have ey := he _ _ hy;simp only [VR] at ex ey;refine ⟨_, ?_, by simp only [VR]; rfl⟩;simp only [execOp, ex, ey, Sem.run_bind, ZeN, Result.andThen_ok]; simp only [binOp, Sem.run_bind, run_equal_bool _ _ _ _ ht, Result.andThen_ok, Sem.run_pure]
theorem Zmf {cs : List D} {i : Nat} (hx : evO C env x = some (.tup cs)) (hi : cs[i]? = some d) : OpQ C ⟨dst, .extract x i, ty, pos, aft, gd⟩ env H d :=
  OpQ.of_run fun L w μ a he => by
    have ex := he _ _ hx;simp only [VR] at ex;obtain ⟨vs, e1, e2⟩ := ex;obtain ⟨v, h1, h2⟩ := Z2 e2 hi;exact ⟨v, by simp only [execOp, e1]; simp [Instr.extract, h1], h2⟩
theorem ZlB {f : FuncId} {caps : List Operand} {ds : List D} (h : evOs C env caps = some ds) : OpQ C ⟨dst, .makeFunc (.func f) #[] caps.toArray, ty, pos, aft, gd⟩ env H (.clos f ds) := by
  refine ⟨fun L0 w μ a hs hv => ?_⟩;have h1 := Zfc hs hv h;unfold Oper.wp
  have : (execOp a.eval ⟨dst, .makeFunc (.func f) #[] caps.toArray, ty, pos, aft, gd⟩).run C.P w = .ok (.value (.func (.func f) #[] (caps.map a.eval).toArray)) w := by
    simp [execOp, Instr.makeFunc]
  rw [this];exact ⟨_, .clos f ds, H, μ, ⟨rfl, rfl⟩, rfl, hs, by simp only [VR]; exact ⟨_, rfl, h1⟩, Evo.refl _ _ _⟩
theorem Zk4 {t : TypeId} (ht : CON C t) (hx : evO C env x = some d) : OpQ C ⟨dst, .makeInterface t x, ty, pos, aft, gd⟩ env H (.iface t d) :=
  OpQ.of_run fun L w μ a he => ⟨.iface t (a.eval x), by simp [execOp, run_makeInterface w t _ ht], by simp only [VR]; exact ⟨_, rfl, he _ _ hx⟩⟩
def D.there : D → Bool
  | .ptr .. | .sptr _ | .iface .. | .clos .. | .sl .. | .nilsl => true
  | _ => false
theorem ZlC (hx : evO C env x = some d) (hd : d.there = true) : OpQ C ⟨dst, .nilCheck x, ty, pos, aft, gd⟩ env H d :=
  OpQ.of_run fun L w μ a he => by
    have ex := he _ _ hx;refine ⟨a.eval x, ?_, ex⟩
    cases d <;> simp only [D.there] at hd <;> first | (cases hd; done) | skip
    all_goals simp only [VR] at ex
    case ptr => obtain ⟨b, _, e⟩ := ex; simp [execOp, e]
    case sptr => obtain ⟨ad, e, _⟩ := ex; simp [execOp, e]
    case iface => obtain ⟨u, e, _⟩ := ex; simp [execOp, e]
    case clos => obtain ⟨vs, e, _⟩ := ex; simp [execOp, e]
    case sl => obtain ⟨a', cap, e, _⟩ := ex; simp [execOp, e]
    case nilsl => simp [execOp, ex]
end
theorem add_add (a : Addr) (j k : Nat) : (a.add j).add k = a.add (j + k) := by
  unfold Addr.add
  by_cases h1 : j = 0 <;> by_cases h2 : k = 0 <;> simp [h1, h2, Nat.add_assoc]
theorem Zek (b j : Nat) : (⟨b, 0, none⟩ : Addr).add j = ⟨b, j, none⟩ := by unfold Addr.add; split <;> simp_all
theorem ZgZ (b i j : Nat) : (⟨b, i, none⟩ : Addr).add j = ⟨b, i + j, none⟩ := by unfold Addr.add; split <;> simp_all
theorem ZcT (a : Addr) (j : Nat) : (a.add j).block = a.block := by unfold Addr.add; split <;> rfl
theorem Zg0 {w : World} {L : Nat → Prop} {ad : Addr} {cs : List D} (h : VRL w L ad 0 cs) (n : Nat) : VRL w L (ad.add n) 0 (cs.drop n) := by
  refine Zfa fun j d hd => ?_
  rw [List.getElem?_drop] at hd;obtain ⟨v, h1, h2⟩ := Zf9 h hd;refine ⟨v, ?_, h2⟩;rw [add_add, Nat.zero_add];rw [Nat.zero_add] at h1;exact h1
theorem Zc2 {P : Program} {w : World} {L : Nat → Prop} {μ : List Nat} {H : Heap} {ad : Addr} : ∀ {cs : List D}, (∀ (j : Nat) (d : D), cs[j]? = some d → ∃ v, w.cell? (ad.add j) = some v ∧ VR w L μ H d v) →
    ∃ vs : List Value, (loadCells ad cs.length).run P w = .ok vs.toArray w ∧ VRs w L μ H cs vs := by
  intro cs h
  have : ∃ vs : List Value, vs.length = cs.length ∧ (∀ j v, vs[j]? = some v → w.cell? (ad.add j) = some v) ∧ VRs w L μ H cs vs := by
    have key : ∀ (ds : List D) (k : Nat), (∀ (j : Nat) (d : D), ds[j]? = some d → ∃ v, w.cell? (ad.add (k + j)) = some v ∧ VR w L μ H d v) → ∃ vs : List Value, vs.length = ds.length ∧ (∀ j v, vs[j]? = some v → w.cell? (ad.add (k + j)) = some v) ∧ VRs w L μ H ds vs := by
      intro ds
      induction ds with
      | nil => intro k _; exact ⟨[], rfl, fun j v h => by simp at h, by simp [VRs]⟩
      | cons d ds ih =>
        intro k hk;obtain ⟨v, h1, h2⟩ := hk 0 d rfl
        obtain ⟨vs, i1, i2, i3⟩ := ih (k + 1) (fun j d' hd => by
          have := hk (j + 1) d' (by simpa using hd)
          rwa [show k + (j + 1) = k + 1 + j by omega] at this)
        refine ⟨v :: vs, by simp [i1], fun j u hu => ?_, by simp only [VRs]; exact ⟨v, vs, rfl, h2, i3⟩⟩
        cases j with
        | zero => simp only [List.getElem?_cons_zero, Option.some.injEq] at hu; subst hu; exact h1
        | succ j => simp only [List.getElem?_cons_succ] at hu; rw [show k + (j + 1) = k + 1 + j by omega]; exact i2 j u hu
    simpa using key cs 0 (by simpa using h)
  obtain ⟨vs, h1, h2, h3⟩ := this;refine ⟨vs, ?_, h3⟩;rw [← h1];exact run_loadCells_list (P := P) w ad vs h2
theorem TI.run_agg {P : Program} {t : TypeId} {desc : TypeDesc} {size bytes : Nat} {zero : Value} (h : TI P t desc size bytes zero) (w : World) : (isAgg t).run P w = .ok (aggD desc) w := by
  unfold isAgg aggD;simp only [Sem.run_bind, h.run_un, Result.andThen_ok]
  cases desc <;> simp
theorem ZdE {P : Program} {t : TypeId} {desc : TypeDesc} {size bytes : Nat} {zero : Value} (h : TI P t desc size bytes zero) (ha : aggD desc = false) {w : World} {ad : Addr} {v : Value} (hc : w.cell? ad = some v) : (loadVar t ad).run P w = .ok v w := by
  unfold loadVar;simp [h.run_agg, ha, hc]
theorem ZdF {P : Program} {t : TypeId} {desc : TypeDesc} {size bytes : Nat} {zero : Value} (h : TI P t desc size bytes zero) (ha : aggD desc = true) {w : World} {ad : Addr} {vs : Array Value} (hc : (loadCells ad size).run P w = .ok vs w) : (loadVar t ad).run P w = .ok (.agg vs) w := by
  unfold loadVar;simp [h.run_agg, ha, h.run_size, hc]
theorem ZfI {w : World} {b j : Nat} {cur : Array Value} {e : TypeId} {fr : Nat × Nat} (h : w.heap[b]? = some (.cells cur e fr)) : w.cell? ⟨b, j, none⟩ = cur[j]? := by simp [World.cell?, h]
theorem SR.cell {C : Ctx} {L0 : Nat → Prop} {w : World} {μ : List Nat} {H : Heap} (hs : SR C L0 w μ H) {i b j : Nat} {o : AObj} {d : D} (ho : H[i]? = some (some o)) (hb : μ[i]? = some b) (hd : o.cells[j]? = some d) :
    ∃ v, w.cell? ⟨b, j, none⟩ = some v ∧ v.oneCell' = true ∧ VR w (forb L0 μ H) μ H d v := by
  obtain ⟨cur, h1, h2, h3⟩ := (hs.obj i o b ho hb).row ((hs.obj i o b ho hb).sp_cells hd);obtain ⟨v, k1, k2, k3⟩ := h3 j d hd;exact ⟨v, by rw [ZfI h1]; exact k1, k2, k3⟩
section
variable {C : Ctx} {env : List D} {H : Heap} {dst : Option Tmp} {ty : TypeId} {pos : String} {aft : Array Edge} {gd : Option (Nat × Bool)} {x y z : Operand} {d : D}
variable {T e : TypeId} {desc descE : TypeDesc} {size bytes sizeE bytesE : Nat} {zero zeroE : Value}
theorem ZnE {o : Oper} (h : ∀ (L0 : Nat → Prop) (w : World) (μ : List Nat) (a : Act), SR C L0 w μ H → (∀ x d, evO C env x = some d → VR w (forb L0 μ H) μ H d (a.eval x)) → ∃ v, (execOp a.eval o).run C.P w = .ok (.value v) w ∧ VR w (forb L0 μ H) μ H d v) : OpQ C o env H d := by
  refine ⟨fun L0 w μ a hs hv => ?_⟩;obtain ⟨v, h1, h2⟩ := h L0 w μ a hs (fun x d hx => Zap hs hv hx);unfold Oper.wp;rw [h1];exact ⟨v, d, H, μ, ⟨rfl, rfl⟩, rfl, hs, h2, Evo.refl _ _ _⟩
theorem Zm7 {i off : Nat} {o : AObj} (ti : TIC C T desc size bytes zero) (ha : aggD desc = false) (hx : evO C env x = some (.ptr i off)) (ho : H[i]? = some (some o)) (hd : o.cells[off]? = some d) : OpQ C ⟨dst, .load T x, ty, pos, aft, gd⟩ env H d :=
  ZnE fun L0 w μ a hs he => by
    have ex := he _ _ hx;simp only [VR] at ex;obtain ⟨b, hb, ex⟩ := ex;obtain ⟨v, h1, _, h3⟩ := hs.cell ho hb hd;exact ⟨v, by simp only [execOp, ex]; simp [Instr.loadAt, Instr.sureAddr, ZdE ti ha h1], h3⟩
theorem Zm8 {cs : List D} (ti : TIC C T desc size bytes zero) (ha : aggD desc = false) (hx : evO C env x = some (.sptr cs)) (hd : cs[0]? = some d) (hp : ∀ w L μ H v, VR w L [] [] d v → VR w L μ H d v) : OpQ C ⟨dst, .load T x, ty, pos, aft, gd⟩ env H d :=
  ZnE fun L0 w μ a hs he => by
    have ex := he _ _ hx;simp only [VR] at ex;obtain ⟨ad, ex, _, _, hr⟩ := ex;obtain ⟨v, h1, _, h3⟩ := Zf9 hr hd
    have h1' : w.cell? ad = some v := by simpa [Addr.add] using h1
    exact ⟨v, by simp only [execOp, ex]; simp [Instr.loadAt, Instr.sureAddr, ZdE ti ha h1'], hp _ _ _ _ _ h3⟩
end
mutual
theorem VR.lift {w : World} {L : Nat → Prop} {μ : List Nat} {H : Heap} : ∀ {d : D} {v : Value}, VR w L [] [] d v → VR w L μ H d v
  | .int k n, v, hv => by simpa only [VR] using hv
  | .bool b, v, hv => by simpa only [VR] using hv
  | .str s, v, hv => by simpa only [VR] using hv
  | .sl n cs, v, hv => by simpa only [VR] using hv
  | .nilsl, v, hv => by simpa only [VR] using hv
  | .row id n, v, hv => by simp only [VR] at hv; obtain ⟨x, hx, _⟩ := hv; simp at hx
  | .sptr cs, v, hv => by simpa only [VR] using hv
  | .ptr id off, v, hv => by simp only [VR] at hv; obtain ⟨b, hb, _⟩ := hv; simp at hb
  | .sub id off n, v, hv => by simp only [VR] at hv; obtain ⟨b, cap, hb, _⟩ := hv; simp at hb
  | .mapv ks us, v, hv => by simpa only [VR] using hv
  | .nilptr, v, hv => by simpa only [VR] using hv
  | .clos f caps, v, hv => by
    simp only [VR] at hv ⊢;obtain ⟨vs, h1, h2⟩ := hv;exact ⟨vs, h1, VRs.lift h2⟩
  | .bnd f first, v, hv => by
    simp only [VR] at hv ⊢;obtain ⟨vs, h1, h2⟩ := hv;exact ⟨vs, h1, VRs.lift h2⟩
  | .nilfn, v, hv => by simpa only [VR] using hv
  | .iface t d, v, hv => by
    simp only [VR] at hv ⊢;obtain ⟨u, h1, h2⟩ := hv;exact ⟨u, h1, VR.lift h2⟩
  | .niliface, v, hv => by simpa only [VR] using hv
  | .agg cs, v, hv => by
    simp only [VR] at hv ⊢;obtain ⟨vs, h1, h2⟩ := hv;exact ⟨vs, h1, VRs.lift h2⟩
  | .tup cs, v, hv => by
    simp only [VR] at hv ⊢;obtain ⟨vs, h1, h2⟩ := hv;exact ⟨vs, h1, VRs.lift h2⟩
  | .yld id, v, hv => by simp only [VR] at hv; obtain ⟨b, hb, _⟩ := hv; simp at hb
  | .mapp id, v, hv => by simp only [VR] at hv; obtain ⟨b, hb, _⟩ := hv; simp at hb
  | .any, v, _ => by simp only [VR]
theorem VRs.lift {w : World} {L : Nat → Prop} {μ : List Nat} {H : Heap} : ∀ {ds : List D} {vs : List Value}, VRs w L [] [] ds vs → VRs w L μ H ds vs
  | [], vs, hv => by simpa only [VRs] using hv
  | d :: ds, vs, hv => by
    simp only [VRs] at hv ⊢;obtain ⟨v, us, h1, h2, h3⟩ := hv;exact ⟨v, us, h1, VR.lift h2, VRs.lift h3⟩
end
mutual
theorem VR.drop {w : World} {L : Nat → Prop} {μ : List Nat} {H : Heap} : ∀ {d : D} {v : Value}, d.pure = true → VR w L μ H d v → VR w L [] [] d v
  | .int k n, v, _, hv => by simpa only [VR] using hv
  | .bool b, v, _, hv => by simpa only [VR] using hv
  | .str s, v, _, hv => by simpa only [VR] using hv
  | .sl n cs, v, _, hv => by simpa only [VR] using hv
  | .nilsl, v, _, hv => by simpa only [VR] using hv
  | .row id n, v, hp, hv => by simp [D.pure] at hp
  | .sptr cs, v, _, hv => by simpa only [VR] using hv
  | .ptr id off, v, hp, hv => by simp [D.pure] at hp
  | .sub id off n, v, hp, hv => by simp [D.pure] at hp
  | .mapv ks us, v, _, hv => by simpa only [VR] using hv
  | .nilptr, v, _, hv => by simpa only [VR] using hv
  | .clos f caps, v, hp, hv => by
    simp only [D.pure] at hp;simp only [VR] at hv ⊢;obtain ⟨vs, h1, h2⟩ := hv;exact ⟨vs, h1, VRs.drop hp h2⟩
  | .bnd f first, v, hp, hv => by
    simp only [D.pure] at hp;simp only [VR] at hv ⊢;obtain ⟨vs, h1, h2⟩ := hv;exact ⟨vs, h1, VRs.drop hp h2⟩
  | .nilfn, v, _, hv => by simpa only [VR] using hv
  | .iface t d, v, hp, hv => by
    simp only [D.pure] at hp;simp only [VR] at hv ⊢;obtain ⟨u, h1, h2⟩ := hv;exact ⟨u, h1, VR.drop hp h2⟩
  | .niliface, v, _, hv => by simpa only [VR] using hv
  | .agg cs, v, hp, hv => by
    simp only [D.pure] at hp;simp only [VR] at hv ⊢;obtain ⟨vs, h1, h2⟩ := hv;exact ⟨vs, h1, VRs.drop hp h2⟩
  | .tup cs, v, hp, hv => by
    simp only [D.pure] at hp;simp only [VR] at hv ⊢;obtain ⟨vs, h1, h2⟩ := hv;exact ⟨vs, h1, VRs.drop hp h2⟩
  | .yld id, v, hp, hv => by simp [D.pure] at hp
  | .mapp id, v, hp, hv => by simp [D.pure] at hp
  | .any, v, _, _ => by simp only [VR]
theorem VRs.drop {w : World} {L : Nat → Prop} {μ : List Nat} {H : Heap} : ∀ {ds : List D} {vs : List Value}, D.pure.pures ds = true → VRs w L μ H ds vs → VRs w L [] [] ds vs
  | [], vs, _, hv => by simpa only [VRs] using hv
  | d :: ds, vs, hp, hv => by
    simp only [D.pure.pures, Bool.and_eq_true] at hp;simp only [VRs] at hv ⊢;obtain ⟨v, us, h1, h2, h3⟩ := hv;exact ⟨v, us, h1, VR.drop hp.1 h2, VRs.drop hp.2 h3⟩
end
section
variable {C : Ctx} {env : List D} {H : Heap} {dst : Option Tmp} {ty : TypeId} {pos : String} {aft : Array Edge} {gd : Option (Nat × Bool)} {x y z : Operand} {d : D}
variable {T e : TypeId} {desc descE : TypeDesc} {size bytes sizeE bytesE : Nat} {zero zeroE : Value}
theorem o_load {cs : List D} (ti : TIC C T desc size bytes zero) (ha : aggD desc = false) (hx : evO C env x = some (.sptr cs)) (hd : cs[0]? = some d) : OpQ C ⟨dst, .load T x, ty, pos, aft, gd⟩ env H d :=
  Zm8 ti ha hx hd (fun _ _ _ _ _ h => VR.lift h)
theorem ZlD {i off : Nat} {o : AObj} {ds : List D} (ti : TIC C T desc size bytes zero) (ha : aggD desc = true) (hx : evO C env x = some (.ptr i off)) (ho : H[i]? = some (some o)) (hd : (o.cells.drop off).take size = ds) (hl : ds.length = size) : OpQ C ⟨dst, .load T x, ty, pos, aft, gd⟩ env H (.agg ds) :=
  ZnE fun L0 w μ a hs he => by
    have ex := he _ _ hx;simp only [VR] at ex;obtain ⟨b, hb, ex⟩ := ex
    obtain ⟨vs, h1, h2⟩ := Zc2 (P := C.P) (w := w) (L := forb L0 μ H) (μ := μ) (H := H) (ad := ⟨b, off, none⟩) (cs := ds) (fun j d' hd' => by
      subst hd;rw [List.getElem?_take] at hd'
      split at hd'
      · rw [List.getElem?_drop] at hd'
        obtain ⟨v, k1, _, k3⟩ := hs.cell ho hb hd';exact ⟨v, by rw [ZgZ]; exact k1, k3⟩
      cases hd')
    rw [hl] at h1;exact ⟨.agg vs.toArray, by simp only [execOp, ex]; simp [Instr.loadAt, Instr.sureAddr, ZdF ti ha h1], by simp only [VR]; exact ⟨vs, rfl, h2⟩⟩
theorem Zmg {cs ds : List D} (ti : TIC C T desc size bytes zero) (ha : aggD desc = true) (hx : evO C env x = some (.sptr cs)) (hd : cs.take size = ds) (hl : ds.length = size) : OpQ C ⟨dst, .load T x, ty, pos, aft, gd⟩ env H (.agg ds) :=
  ZnE fun L0 w μ a hs he => by
    have ex := he _ _ hx;simp only [VR] at ex;obtain ⟨ad, ex, _, _, hr⟩ := ex
    obtain ⟨vs, h1, h2⟩ := Zc2 (P := C.P) (w := w) (L := forb L0 μ H) (μ := μ) (H := H) (ad := ad) (cs := ds) (fun j d' hd' => by
      subst hd;rw [List.getElem?_take] at hd'
      split at hd'
      · obtain ⟨v, k1, _, k3⟩ := Zf9 hr hd'
        exact ⟨v, by simpa using k1, VR.lift k3⟩
      cases hd')
    rw [hl] at h1;exact ⟨.agg vs.toArray, by simp only [execOp, ex]; simp [Instr.loadAt, Instr.sureAddr, ZdF ti ha h1], by simp only [VR]; exact ⟨vs, rfl, h2⟩⟩
theorem ZfJ {P : Program} {w : World} {t e : TypeId} {ad : Addr} {n cap : Nat} {k : IntKind} {i : Int} {dE : TypeDesc} {sz by_ : Nat} {zE : Value} (ht : P.underlying t = some (.slice e)) (te : TI P e dE sz by_ zE) (h0 : 0 ≤ i) (h1 : i < n) :
    (Instr.indexAt t (.slice (some ad) n cap) (.int k i)).run P w = .ok (.pointer (some (ad.add (i.toNat * sz)))) w := by
  unfold Instr.indexAt;simp [asIntOf, run_underlying ht, te.run_size, h0, h1]
theorem Zmh {n : Nat} {cs : List D} {k : IntKind} {i : Int} (ht : UN C T (.slice e)) (te : TIC C e descE sizeE bytesE zeroE) (hx : evO C env x = some (.sl n cs)) (hy : evO C env y = some (.int k i)) (h0 : 0 ≤ i) (h1 : i < n) (hne : cs ≠ []) :
    OpQ C ⟨dst, .indexAddr T x y, ty, pos, aft, gd⟩ env H (.sptr (cs.drop (i.toNat * sizeE))) :=
  OpQ.of_run fun L w μ a he => by
    have ex := he _ _ hx;have ey := he _ _ hy;simp only [VR] at ex ey;obtain ⟨a', cap, ex, _, _, h3⟩ := ex;obtain ⟨ad, rfl, k1, k2, k3⟩ := h3 hne;exact ⟨.pointer (some (ad.add (i.toNat * sizeE))), by simp only [execOp, ex, ey]; simp [ZfJ ht te h0 h1], by simp only [VR]; exact ⟨_, rfl, by rw [ZcT]; exact k1, by rw [ZcT]; exact k2, Zg0 k3 _⟩⟩
theorem ZlE {id n : Nat} {o : AObj} {k : IntKind} {i : Int} (ht : UN C T (.slice e)) (te : TIC C e descE sizeE bytesE zeroE) (hx : evO C env x = some (.row id n)) (ho : H[id]? = some (some o)) (hy : evO C env y = some (.int k i)) (h0 : 0 ≤ i) (h1 : i < n) :
    OpQ C ⟨dst, .indexAddr T x y, ty, pos, aft, gd⟩ env H (.ptr id (i.toNat * sizeE)) :=
  OpQ.of_run fun L w μ a he => by
    have ex := he _ _ hx;have ey := he _ _ hy;simp only [VR] at ex ey;obtain ⟨x', hx', h2⟩ := ex;rw [ho] at hx'
    injection hx' with hx'
    obtain ⟨b, cap, cur, k1, ex, _⟩ := h2 o hx'.symm;exact ⟨.pointer (some ⟨b, i.toNat * sizeE, none⟩), by simp only [execOp, ex, ey]; simp [ZfJ ht te h0 h1, Zek], by simp only [VR]; exact ⟨b, k1, rfl⟩⟩
theorem ZkX {P : Program} {w : World} {t e : TypeId} {ad : Addr} {n : Nat} {k : IntKind} {i : Int} {dE : TypeDesc} {sz by_ : Nat} {zE : Value} (ht : P.underlying t = some (.array n e)) (te : TI P e dE sz by_ zE) (h0 : 0 ≤ i) (h1 : i < n) :
    (Instr.indexAt t (.pointer (some ad)) (.int k i)).run P w = .ok (.pointer (some (ad.add (i.toNat * sz)))) w := by
  unfold Instr.indexAt;simp [asIntOf, run_underlying ht, te.run_size, h0, h1, Instr.sureAddr]
theorem Zk5 {n : Nat} {cs : List D} {k : IntKind} {i : Int} (ht : UN C T (.array n e)) (te : TIC C e descE sizeE bytesE zeroE) (hx : evO C env x = some (.sptr cs)) (hy : evO C env y = some (.int k i)) (h0 : 0 ≤ i) (h1 : i < n) :
    OpQ C ⟨dst, .indexAddr T x y, ty, pos, aft, gd⟩ env H (.sptr (cs.drop (i.toNat * sizeE))) :=
  OpQ.of_run fun L w μ a he => by
    have ex := he _ _ hx;have ey := he _ _ hy;simp only [VR] at ex ey;obtain ⟨ad, ex, k1, k2, k3⟩ := ex;exact ⟨.pointer (some (ad.add (i.toNat * sizeE))), by simp only [execOp, ex, ey]; simp [ZkX ht te h0 h1], by simp only [VR]; exact ⟨_, rfl, by rw [ZcT]; exact k1, by rw [ZcT]; exact k2, Zg0 k3 _⟩⟩
theorem ZlF {s : ByteArray} {k : IntKind} {i : Int} (ht : UN C T .string) (hx : evO C env x = some (.str s)) (hy : evO C env y = some (.int k i)) (h0 : 0 ≤ i) (h1 : i.toNat < s.size) :
    OpQ C ⟨dst, .index T x y, ty, pos, aft, gd⟩ env H (.int .u8 (s[i.toNat]'h1).toNat) :=
  OpQ.of_run fun L w μ a he => by
    have ex := he _ _ hx;have ey := he _ _ hy;simp only [VR] at ex ey;refine ⟨.int .u8 (s[i.toNat]'h1).toNat, ?_, by simp only [VR]⟩;simp only [execOp, ex, ey];unfold Instr.index;simp [asIntOf, run_underlying ht, h0, h1]
theorem Zm9 {n : Nat} {cs : List D} (ht : UN C T (.slice e)) (hx : evO C env x = some (.sl n cs)) : OpQ C ⟨dst, .call ⟨.builtin .len, #[x], #[T]⟩, ty, pos, aft, gd⟩ env H (.int .i64 n) :=
  OpQ.of_run fun L w μ a he => by
    have ex := he _ _ hx;simp only [VR] at ex;obtain ⟨a', cap, ex, _⟩ := ex;exact ⟨.int .i64 n, by simp [execOp, resolve, ex, invoke, builtin, Builtin.len_, run_underlying ht, goInt], by simp only [VR]⟩
theorem ZmG {id n : Nat} {o : AObj} (ht : UN C T (.slice e)) (hx : evO C env x = some (.row id n)) (ho : H[id]? = some (some o)) : OpQ C ⟨dst, .call ⟨.builtin .len, #[x], #[T]⟩, ty, pos, aft, gd⟩ env H (.int .i64 n) :=
  OpQ.of_run fun L w μ a he => by
    have ex := he _ _ hx;simp only [VR] at ex;obtain ⟨x', hx', h2⟩ := ex;rw [ho] at hx'
    injection hx' with hx'
    obtain ⟨b, cap, cur, k1, ex, _⟩ := h2 o hx'.symm;exact ⟨.int .i64 n, by simp [execOp, resolve, ex, invoke, builtin, Builtin.len_, run_underlying ht, goInt], by simp only [VR]⟩
theorem ZmH {s : ByteArray} (ht : UN C T .string) (hx : evO C env x = some (.str s)) : OpQ C ⟨dst, .call ⟨.builtin .len, #[x], #[T]⟩, ty, pos, aft, gd⟩ env H (.int .i64 s.size) :=
  OpQ.of_run fun L w μ a he => by
    have ex := he _ _ hx;simp only [VR] at ex;exact ⟨.int .i64 s.size, by simp [execOp, resolve, ex, invoke, builtin, Builtin.len_, run_underlying ht, goInt], by simp only [VR]⟩
theorem o_max {k : IntKind} {m n : Int} {t t' : TypeId} (hx : evO C env x = some (.int k m)) (hy : evO C env y = some (.int k n)) : OpQ C ⟨dst, .call ⟨.builtin .max, #[x, y], #[t, t']⟩, ty, pos, aft, gd⟩ env H (.int k (max m n)) :=
  OpQ.of_run fun L w μ a he => by
    have ex := he _ _ hx;have ey := he _ _ hy;simp only [VR] at ex ey
    have hm : (if n > m then n else m) = max m n := by split <;> omega
    exact ⟨.int k (max m n), by simp only [execOp, resolve, ex, ey, invoke, builtin, Sem.run_bind, Sem.run_pure, Result.andThen_ok, List.map_toArray, List.map_cons, List.map_nil, run_max_int2, hm], by simp only [VR]⟩
theorem o_min {k : IntKind} {m n : Int} {t t' : TypeId} (hx : evO C env x = some (.int k m)) (hy : evO C env y = some (.int k n)) : OpQ C ⟨dst, .call ⟨.builtin .min, #[x, y], #[t, t']⟩, ty, pos, aft, gd⟩ env H (.int k (min m n)) :=
  OpQ.of_run fun L w μ a he => by
    have ex := he _ _ hx;have ey := he _ _ hy;simp only [VR] at ex ey
    have hm : (if n < m then n else m) = min m n := by split <;> omega
    exact ⟨.int k (min m n), by simp only [execOp, resolve, ex, ey, invoke, builtin, Sem.run_bind, Sem.run_pure, Result.andThen_ok, List.map_toArray, List.map_cons, List.map_nil, run_min_int2, hm], by simp only [VR]⟩
end
end Go.V
