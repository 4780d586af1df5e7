/- A part of the proof: abstract values, rules for the steps of the program's form, and contracts of its functions, each proved; no condition. -/
import Derived.Test.YthankfodgdfgaaaDoorA02
import Derived.Maps.AppendAt
set_option linter.unusedVariables false
set_option linter.unusedSimpArgs false
set_option linter.unnecessarySimpa false
/- STATEMENTS THAT DRAW THEIR ORDER: where the operations leave the abstract heap alone, each order ends alike. -/
namespace Go.V
open Go.RowKit
def maskF (ls : List Tmp) : Nat → List D → List D
  | _, [] => []
  | t, d :: ds => (bif ls.contains t then d else .any) :: maskF ls (t + 1) ds
theorem maskF_length (ls : List Tmp) : ∀ (t : Nat) (env : List D), (maskF ls t env).length = env.length
  | _, [] => rfl
  | t, d :: ds => by simp [maskF, maskF_length ls (t + 1) ds]
theorem maskF_get (ls : List Tmp) : ∀ (t : Nat) (env : List D) (j : Nat), (maskF ls t env)[j]? = (env[j]?).map fun d => bif ls.contains (t + j) then d else .any
  | _, [], j => by simp [maskF]
  | t, d :: ds, 0 => by simp [maskF]
  | t, d :: ds, j + 1 => by
    simp only [maskF, List.getElem?_cons_succ, maskF_get ls (t + 1) ds j]
    rw [show t + 1 + j = t + (j + 1) by omega]
theorem envLe_of {env env' : List D} (hl : env.length = env'.length) (h : ∀ (j : Nat) (d e : D), env[j]? = some d → env'[j]? = some e → e = d ∨ e = .any) : envLe env env' := by
  induction env generalizing env' with
  | nil => cases env' with
    | nil => trivial
    | cons _ _ => simp at hl
  | cons d ds ih => cases env' with
    | nil => simp at hl
    | cons e es => exact ⟨h 0 d e rfl rfl, ih (by simpa using hl) fun j d' e' h1 h2 => h (j + 1) d' e' (by simpa using h1) (by simpa using h2)⟩
theorem envLe_get : ∀ {env env' : List D} {j : Nat} {e : D}, envLe env env' → env'[j]? = some e → ∃ d, env[j]? = some d ∧ (e = d ∨ e = .any)
  | [], [], j, e, _, h => by simp at h
  | [], _ :: _, _, _, h, _ => h.elim
  | _ :: _, [], _, _, h, _ => h.elim
  | d :: ds, e :: es, 0, e', h, h' => by simp at h'; subst h'; exact ⟨d, rfl, h.1⟩
  | d :: ds, e :: es, j + 1, e', h, h' => by simpa using envLe_get h.2 (by simpa using h')
theorem gOk_le {ops : List Oper} {env env' : List D} {g : Option (Nat × Bool)} {r : Bool} (hle : envLe env env') (h : gOk ops env' g = some r) : gOk ops env g = some r := by
  unfold gOk at h ⊢
  cases g with
  | none => exact h
  | some p =>
    obtain ⟨j, want⟩ := p
    simp only at h ⊢
    cases ho : ops[j]? with
    | none => rw [ho] at h; simp at h
    | some o =>
      rw [ho] at h
      simp only at h ⊢
      cases hd : o.dst with
      | none => rw [hd] at h; simp at h
      | some t =>
        rw [hd] at h
        simp only at h ⊢
        cases he : env'[t]? with
        | none => rw [he] at h; simp at h
        | some e =>
          obtain ⟨d, h1, h2⟩ := envLe_get hle he
          rw [he] at h
          rw [h1]
          rcases h2 with rfl | rfl
          · exact h
          simp at h
theorem OpH.le {C : Ctx} {o : Oper} {env env' : List D} {H : Heap} {K KP : D → Heap → Prop} (hle : envLe env env') (h : OpH C o env' H K KP) : OpH C o env H K KP :=
  ⟨fun L0 w μ a hs hv => h.out L0 w μ a hs (VRs.le hle hv)⟩
theorem wp_mono2 {P : Program} {o : Oper} {a : Act} {w : World} {K K' : Act → World → Prop} {Q Q' : Exit → Act → World → Prop} (hK : ∀ a w, K a w → K' a w) (hQ : ∀ e a w, Q e a w → Q' e a w) (h : o.wp P a w K Q) : o.wp P a w K' Q' := by
  have hL : LetsOut Q → LetsOut Q' := fun ⟨a0, w0, h0⟩ => ⟨a0, w0, hQ _ _ _ h0⟩
  unfold Oper.wp at *
  generalize (execOp a.eval o).run P w = r at *
  cases r with
  | ok n w' =>
    cases n <;> simp only [Oper.upon] at h ⊢ <;>
      first
        | exact hK _ _ h
        | exact hQ _ _ _ h
        | exact Calls.mono h (fun e w'' he => by cases e <;> first | exact hK _ _ he | exact hQ _ _ _ he | exact hL he)
        | exact Rows.mono h (fun _ _ he => hK _ _ he)
  | halt x w' => cases x <;> simp only [Oper.upon] at h ⊢ <;> exact hQ _ _ _ h
theorem OpH.mono {C : Ctx} {o : Oper} {env : List D} {H : Heap} {K KP K' KP' : D → Heap → Prop} (hk : ∀ d H, K d H → K' d H) (hp : ∀ d H, KP d H → KP' d H) (h : OpH C o env H K KP) : OpH C o env H K' KP' :=
  ⟨fun L0 w μ a hs hv => wp_mono2 (fun _ _ ⟨v, d, H', μ', x, r⟩ => ⟨v, d, H', μ', hk _ _ x, r⟩) (fun _ _ _ ⟨v, d, H', μ', x, y, z, r⟩ => ⟨v, d, H', μ', x, y, hp _ _ z, r⟩) (h.out L0 w μ a hs hv)⟩
def OpG (C : Ctx) (o : Oper) (env : List D) (H : Heap) (d : D) (g : Prop) (KP : D → Prop) : Prop := OpH C o env H (fun d' H' => g ∧ d' = d ∧ H' = H) (fun d' H' => KP d' ∧ H' = H)
theorem OpQ.g {C : Ctx} {o : Oper} {env : List D} {H : Heap} {d : D} {KP : D → Prop} (h : OpQ C o env H d) : OpG C o env H d True KP := OpH.mono (fun _ _ ⟨a, b⟩ => ⟨trivial, a, b⟩) (fun _ _ h => h.elim) h
class Put (env : List D) (t : Option Tmp) (d : D) (env' : outParam (List D)) : Prop where
  eq : envPut env t d = env'
instance Put.none {env : List D} {d : D} : Put env none d env := ⟨rfl⟩
instance Put.zero {a d : D} {l : List D} : Put (a :: l) (some 0) d (d :: l) := ⟨rfl⟩
instance Put.succ {a d : D} {l l' : List D} {n : Nat} [h : Put l (some n) d l'] : Put (a :: l) (some (n + 1)) d (a :: l') := ⟨by have := h.eq; simp only [envPut] at this ⊢; simp [this]⟩
instance (priority := high) Put.eight {a b c e f g i j d : D} {l l' : List D} {n : Nat} [h : Put l (some n) d l'] : Put (a :: b :: c :: e :: f :: g :: i :: j :: l) (some (n + 8)) d (a :: b :: c :: e :: f :: g :: i :: j :: l') :=
  ⟨by have := h.eq; simp only [envPut] at this ⊢; simp [this]⟩
inductive DCh (C : Ctx) (ops : Array Oper) (H : Heap) (KP : D → Prop) : List Oper → List D → List D → Prop → Prop
  | nil {env : List D} : DCh C ops H KP [] env env True
  | op {o : Oper} {rest : List Oper} {env env' envF : List D} {d : D} {G : Prop} : gOk ops.toList (maskF (o.looksAt ops) 0 env) o.guard = some true → OpQ C o (maskF (o.looksAt ops) 0 env) H d → [Put env o.dst d env'] → DCh C ops H KP rest env' envF G → DCh C ops H KP (o :: rest) env envF G
  | opP {o : Oper} {rest : List Oper} {env env' envF : List D} {d : D} {g G : Prop} : gOk ops.toList (maskF (o.looksAt ops) 0 env) o.guard = some true → OpG C o (maskF (o.looksAt ops) 0 env) H d g KP → [Put env o.dst d env'] → DCh C ops H KP rest env' envF G → DCh C ops H KP (o :: rest) env envF (g ∧ G)
  | skip {o : Oper} {rest : List Oper} {env env' envF : List D} {G : Prop} : gOk ops.toList (maskF (o.looksAt ops) 0 env) o.guard = some false → [Put env o.dst (.tup []) env'] → DCh C ops H KP rest env' envF G → DCh C ops H KP (o :: rest) env envF G
def DAt (C : Ctx) (ops : Array Oper) (H : Heap) (KP : D → Prop) (o : Oper) (env : List D) (d : D) (g : Prop) : Prop :=
  (gOk ops.toList (maskF (o.looksAt ops) 0 env) o.guard = some true ∧ OpG C o (maskF (o.looksAt ops) 0 env) H d g KP) ∨ (gOk ops.toList (maskF (o.looksAt ops) 0 env) o.guard = some false ∧ d = .tup [] ∧ g)
theorem DCh.split {C : Ctx} {ops : Array Oper} {H : Heap} {KP : D → Prop} {l : List Oper} {env envF : List D} {G : Prop} (h : DCh C ops H KP l env envF G) :
    ∃ (e : Nat → List D) (dv : Nat → D) (g : Nat → Prop), e 0 = env ∧ e l.length = envF ∧ ((∀ i < l.length, g i) → G) ∧ ∀ (i : Nat) (o : Oper), l[i]? = some o → e (i + 1) = envPut (e i) o.dst (dv i) ∧ DAt C ops H KP o (e i) (dv i) (g i) := by
  induction h with
  | nil => exact ⟨fun _ => _, fun _ => .any, fun _ => True, rfl, rfl, fun _ => trivial, fun i o h => by simp at h⟩
  | @op o rest env env' envF d G h1 h2 hp _ ih =>
    obtain ⟨e, dv, g, k1, k2, k3, k4⟩ := ih
    refine ⟨fun i => match i with | 0 => env | i + 1 => e i, fun i => match i with | 0 => d | i + 1 => dv i, fun i => match i with | 0 => True | i + 1 => g i, rfl, k2, fun hg => k3 fun i hi => hg (i + 1) (by simpa using hi), fun i o' ho => ?_⟩
    cases i with
    | zero => simp at ho; subst ho; exact ⟨k1.trans hp.eq.symm, .inl ⟨h1, h2.g⟩⟩
    | succ i => exact k4 i o' (by simpa using ho)
  | @opP o rest env env' envF d g0 G h1 h2 hp _ ih =>
    obtain ⟨e, dv, g, k1, k2, k3, k4⟩ := ih
    refine ⟨fun i => match i with | 0 => env | i + 1 => e i, fun i => match i with | 0 => d | i + 1 => dv i, fun i => match i with | 0 => g0 | i + 1 => g i, rfl, k2, fun hg => ⟨hg 0 (by simp), k3 fun i hi => hg (i + 1) (by simpa using hi)⟩, fun i o' ho => ?_⟩
    cases i with
    | zero => simp at ho; subst ho; exact ⟨k1.trans hp.eq.symm, .inl ⟨h1, h2⟩⟩
    | succ i => exact k4 i o' (by simpa using ho)
  | @skip o rest env env' envF G h1 hp _ ih =>
    obtain ⟨e, dv, g, k1, k2, k3, k4⟩ := ih
    refine ⟨fun i => match i with | 0 => env | i + 1 => e i, fun i => match i with | 0 => .tup [] | i + 1 => dv i, fun i => match i with | 0 => True | i + 1 => g i, rfl, k2, fun hg => k3 fun i hi => hg (i + 1) (by simpa using hi), fun i o' ho => ?_⟩
    cases i with
    | zero => simp at ho; subst ho; exact ⟨k1.trans hp.eq.symm, .inr ⟨h1, rfl, trivial⟩⟩
    | succ i => exact k4 i o' (by simpa using ho)
def hasE (ops : List Oper) (i j : Nat) : Bool := match ops[i]? with
  | some o => o.after.any fun e => e.on == j && Region.binds .any e
  | none => false
def reachF (ops : List Oper) : Nat → Nat → Nat → Bool
  | 0, i, j => hasE ops i j
  | n + 1, i, j => hasE ops i j || (List.range i).any (fun k => hasE ops i k && reachF ops n k j)
def allLt (n : Nat) (f : Nat → Bool) : Bool := (List.range n).all f
theorem allLt_at {n : Nat} {f : Nat → Bool} (h : allLt n f = true) {i : Nat} (hi : i < n) : f i = true := List.all_eq_true.1 h i (by simpa using hi)
def dstOf (ops : List Oper) (i : Nat) : Option Tmp := (ops[i]?).bind (·.dst)
def okDraw (ops : List Oper) (m : Nat) : Bool :=
  allLt ops.length (fun i => match ops[i]? with
    | some o => o.after.all fun e => !Region.binds .any e || Nat.blt e.on i
    | none => false) &&
  allLt m (fun i => allLt m fun j => Nat.beq i j || match ops[i]?, dstOf ops j with
    | some o, some t => !(o.looksAt ops.toArray).contains t || bif Nat.blt j i then hasE ops i j else hasE ops j i
    | _, _ => true) &&
  allLt m (fun i => allLt m fun j => Nat.beq i j || match dstOf ops i, dstOf ops j with
    | some s, some t => !Nat.beq s t
    | _, _ => true) &&
  allLt ops.length (fun i => Nat.blt i m || allLt i fun j => reachF ops 5 i j)
end Go.V
/- STATEMENTS THAT DRAW THEIR ORDER: the proof. -/
namespace Go.V
open Go.RowKit
section
variable (m : Nat) (dst : Nat → Option Tmp) (dv : Nat → D) (env : List D)
def slotD (S : Nat → Bool) (t : Nat) (d0 : D) : D := match (List.range m).find? fun i => S i && dst i == some t with
  | some i => dv i
  | none => d0
def envS (S : Nat → Bool) : List D := env.mapIdx fun t d => slotD m dst dv S t d
end
section
variable {m : Nat} {dst : Nat → Option Tmp} {dv : Nat → D} {env : List D}
def Dist (m : Nat) (dst : Nat → Option Tmp) : Prop := ∀ i j t, i < m → j < m → dst i = some t → dst j = some t → i = j
theorem slot_some (hd : Dist m dst) {S : Nat → Bool} {i t : Nat} {d0 : D} (hi : i < m) (hs : S i = true) (ht : dst i = some t) : slotD m dst dv S t d0 = dv i := by
  unfold slotD
  cases hf : (List.range m).find? fun i => S i && dst i == some t with
  | none =>
    have := List.find?_eq_none.1 hf i (by simpa using hi)
    simp [hs, ht] at this
  | some j =>
    have h1 := List.find?_some hf
    have h2 := List.mem_of_find?_eq_some hf
    simp at h1 h2
    have := hd i j t hi h2 ht h1.2
    subst this
    rfl
theorem slot_none {S : Nat → Bool} {t : Nat} {d0 : D} (h : ∀ i, i < m → S i = true → dst i ≠ some t) : slotD m dst dv S t d0 = d0 := by
  unfold slotD
  cases hf : (List.range m).find? fun i => S i && dst i == some t with
  | none => rfl
  | some j =>
    have h1 := List.find?_some hf
    have h2 := List.mem_of_find?_eq_some hf
    simp at h1 h2
    exact (h j h2 h1.1 h1.2).elim
theorem envS_get (S : Nat → Bool) (t : Nat) : (envS m dst dv env S)[t]? = (env[t]?).map fun d => slotD m dst dv S t d := by simp [envS]
theorem envS_empty : envS m dst dv env (fun _ => false) = env := by
  apply List.ext_getElem?
  intro t
  rw [envS_get]
  cases h : env[t]? with
  | none => rfl
  | some d => simp only [Option.map_some]; rw [slot_none (fun i _ h => by cases h)]
theorem envPut_get (l : List D) (o : Option Tmp) (d : D) (t : Nat) : (envPut l o d)[t]? = if o = some t then (l[t]?).map fun _ => d else l[t]? := by
  cases o with
  | none => simp [envPut]
  | some u =>
    simp only [envPut, List.getElem?_set, Option.some.injEq]
    by_cases h : u = t
    · subst h
      simp only [if_true]
      by_cases hu : u < l.length
      · simp [hu]
      simp [hu, List.getElem?_eq_none (Nat.le_of_not_lt hu)]
    simp [h]
theorem envS_put (hd : Dist m dst) {S S' : Nat → Bool} {i : Nat} (hi : i < m) (h1 : S' i = true) (h2 : ∀ j, j ≠ i → S' j = S j) : envS m dst dv env S' = envPut (envS m dst dv env S) (dst i) (dv i) := by
  apply List.ext_getElem?
  intro t
  rw [envPut_get, envS_get, envS_get]
  cases he : env[t]? with
  | none => simp
  | some d =>
    simp only [Option.map_some]
    split
    · rename_i ht
      rw [slot_some hd hi h1 ht]
    rename_i ht
    congr 1
    by_cases hx : ∃ j, j < m ∧ S' j = true ∧ dst j = some t
    · obtain ⟨j, k1, k2, k3⟩ := hx
      have hne : j ≠ i := fun e => by subst e; exact ht k3
      rw [slot_some hd k1 k2 k3, slot_some hd k1 (by rw [← h2 j hne]; exact k2) k3]
    have hn : ∀ j, j < m → S' j = true → dst j ≠ some t := fun j a b c => hx ⟨j, a, b, c⟩
    rw [slot_none hn, slot_none]
    intro j a b c
    have hne : j ≠ i := fun e => by subst e; exact ht c
    exact hn j a (by rw [h2 j hne]; exact b) c
theorem envS_lex (hd : Dist m dst) {e : Nat → List D} (h0 : e 0 = env) (hs : ∀ i, i < m → e (i + 1) = envPut (e i) (dst i) (dv i)) : ∀ i, i ≤ m → e i = envS m dst dv env (fun j => decide (j < i))
  | 0, _ => by simp only [Nat.not_lt_zero, decide_false]; rw [envS_empty]; exact h0
  | i + 1, h => by
    rw [hs i (by omega), envS_lex hd h0 hs i (by omega)]
    refine (envS_put hd (by omega) (by simp) fun j hj => ?_).symm
    by_cases h1 : j < i
    · simp [h1]; omega
    have : ¬ j < i + 1 := by omega
    simp [h1, this]
end
theorem filter_one : ∀ (n p : Nat), (List.range n).filter (fun i => i == p) = if p < n then [p] else []
  | 0, p => by simp
  | n + 1, p => by
    rw [List.range_succ, List.filter_append, filter_one n p]
    by_cases h : p < n
    · have : ¬ n = p := by omega
      simp [h, this]; omega
    by_cases h2 : n = p
    · subst h2; simp
    have : ¬ p < n + 1 := by omega
    simp [h, h2, this]
structure OkD (l : List Oper) (m : Nat) : Prop where
  back : ∀ (i : Nat) (o : Oper), l[i]? = some o → ∀ e ∈ o.after, Region.binds .any e = true → e.on < i
  dep : ∀ (i j : Nat) (o : Oper) (t : Tmp), i < m → j < m → i ≠ j → l[i]? = some o → dstOf l j = some t → (o.looksAt l.toArray).contains t = true → (j < i → hasE l i j = true) ∧ (i < j → hasE l j i = true)
  dist : Dist m (dstOf l)
  suf : ∀ i, m ≤ i → i < l.length → ∀ j, j < i → reachF l 5 i j = true
theorem OkD.of {l : List Oper} {m : Nat} (h : okDraw l m = true) : OkD l m := by
  simp only [okDraw, Bool.and_eq_true] at h
  obtain ⟨⟨⟨h1, h2⟩, h3⟩, h4⟩ := h
  refine ⟨fun i o ho e he hb => ?_, fun i j o t hi hj hij ho ht hl => ?_, fun i j t hi hj h5 h6 => ?_, fun i hm hi j hj => ?_⟩
  · have hi : i < l.length := (List.getElem?_eq_some_iff.1 ho).1
    have := allLt_at h1 hi
    rw [ho] at this
    have := Array.all_eq_true'.1 this e he
    simp [hb] at this
    exact this
  · have := allLt_at (allLt_at h2 hi) hj
    rw [ho, ht] at this
    simp only [Bool.or_eq_true, hl, Bool.not_true] at this
    rcases this with h | h
    · exact (hij (Nat.eq_of_beq_eq_true h)).elim
    rcases h with h | h
    · cases h
    constructor
    · intro hlt
      have : Nat.blt j i = true := by simp [Nat.blt_eq]; exact hlt
      rw [this] at h
      exact h
    intro hlt
    have : Nat.blt j i = false := by
      cases hb : Nat.blt j i with
      | false => rfl
      | true => simp [Nat.blt_eq] at hb; omega
    rw [this] at h
    exact h
  · by_cases hij : i = j
    · exact hij
    have := allLt_at (allLt_at h3 hi) hj
    rw [h5, h6] at this
    simp at this
    exact this
  have := allLt_at h4 hi
  simp only [Bool.or_eq_true] at this
  rcases this with h | h
  · simp [Nat.blt_eq] at h; omega
  exact allLt_at h hj
def lst (listed : Array Bool) (j : Nat) : Bool := listed.getD j false
theorem hasE_listed {l : List Oper} {listed : Array Bool} {i j : Nat} {o : Oper} (ho : l[i]? = some o) (h : hasE l i j = true) (ha : (o.after.all fun e => !Region.binds .any e || listed.getD e.on false) = true) : lst listed j = true := by
  unfold hasE at h
  rw [ho] at h
  obtain ⟨e, he, h2⟩ := Array.any_eq_true'.1 h
  simp only [Bool.and_eq_true, beq_iff_eq] at h2
  have := Array.all_eq_true'.1 ha e he
  simp only [h2.2, Bool.not_true, Bool.false_or] at this
  unfold lst
  rw [← h2.1]
  exact this
theorem reach_cl {l : List Oper} {listed : Array Bool} (hcl : ∀ k, lst listed k = true → ∀ j, hasE l k j = true → lst listed j = true) : ∀ (n k j : Nat), lst listed k = true → reachF l n k j = true → lst listed j = true
  | 0, k, j, hk, h => hcl k hk j h
  | n + 1, k, j, hk, h => by
    simp only [reachF, Bool.or_eq_true, List.any_eq_true, Bool.and_eq_true] at h
    rcases h with h | ⟨k', _, h1, h2⟩
    · exact hcl k hk j h
    exact reach_cl hcl n k' j (hcl k hk k' h1) h2
theorem reach_listed {l : List Oper} {listed : Array Bool} {i j : Nat} {o : Oper} (hcl : ∀ k, lst listed k = true → ∀ j, hasE l k j = true → lst listed j = true) (ho : l[i]? = some o) (n : Nat) (h : reachF l n i j = true) (ha : (o.after.all fun e => !Region.binds .any e || listed.getD e.on false) = true) : lst listed j = true := by
  cases n with
  | zero => exact hasE_listed ho h ha
  | succ n =>
    simp only [reachF, Bool.or_eq_true, List.any_eq_true, Bool.and_eq_true] at h
    rcases h with h | ⟨k', _, h1, h2⟩
    · exact hasE_listed ho h ha
    exact reach_cl hcl n k' j (hasE_listed ho h1 ha) h2
theorem go_suf {l : List Oper} {m : Nat} (ok : OkD l m) : ∀ (fuel p t : Nat) (listed : Array Bool), listed.size = l.length → (∀ j, j < l.length → listed[j]? = some (decide (j < p))) → m ≤ p → l.length - p ≤ fuel → Region.linearise.go .any l.toArray fuel t listed [] = List.range' p (l.length - p)
  | 0, p, t, listed, _, _, _, hf => by
    have : l.length - p = 0 := by omega
    rw [this]
    simp [Region.linearise.go]
  | fuel + 1, p, t, listed, hsz, hl, hm, hf => by
    have hready : (List.range l.toArray.size).filter (fun i => !listed.getD i true && ((l.toArray[i]?).map (·.after.all fun e => !Region.binds .any e || listed.getD e.on false)).getD false) = if p < l.length then [p] else [] := by
      rw [← filter_one, List.size_toArray]
      apply List.filter_congr
      intro i hi
      have hi : i < l.length := by simpa using hi
      have hli : listed.getD i true = decide (i < p) := by simp [Array.getD_eq_getD_getElem?, hl i hi]
      obtain ⟨o, ho⟩ : ∃ o, l[i]? = some o := ⟨l[i], by simp [hi]⟩
      rw [hli]
      rcases Nat.lt_trichotomy i p with h | h | h
      · have : ¬ i = p := by omega
        simp [h, this]
      · subst h
        have : (o.after.all fun e => !Region.binds .any e || listed.getD e.on false) = true := by
          apply Array.all_eq_true'.2
          intro e he
          cases hb : Region.binds .any e with
          | false => rfl
          | true =>
            have h1 := ok.back i o ho e he hb
            simp [Array.getD_eq_getD_getElem?, hl e.on (by omega), h1]
        have ho' : l.toArray[i]? = some o := by simpa using ho
        simp only [Nat.lt_irrefl, decide_false, Bool.not_false, Bool.true_and, ho', Option.map_some, Option.getD_some, this, beq_self_eq_true]
      have h1 : ¬ i < p := by omega
      have h2 : ¬ i = p := by omega
      have : (o.after.all fun e => !Region.binds .any e || listed.getD e.on false) = false := by
        cases hb : (o.after.all fun e => !Region.binds .any e || listed.getD e.on false) with
        | false => rfl
        | true =>
          have hcl : ∀ k, lst listed k = true → ∀ j, hasE l k j = true → lst listed j = true := by
            intro k hk j hj
            have hkl : k < l.length := by
              apply Classical.byContradiction
              intro hn
              have : listed[k]? = none := by rw [Array.getElem?_eq_none_iff]; omega
              simp [lst, Array.getD_eq_getD_getElem?, this] at hk
            obtain ⟨o', ho'⟩ : ∃ o, l[k]? = some o := ⟨l[k], by simp [hkl]⟩
            have hj' := hj
            unfold hasE at hj'
            rw [ho'] at hj'
            obtain ⟨e, he, h2⟩ := Array.any_eq_true'.1 hj'
            simp only [Bool.and_eq_true, beq_iff_eq] at h2
            have hb := ok.back k o' ho' e he h2.2
            have hkp : k < p := by
              have := hl k hkl
              simp [lst, Array.getD_eq_getD_getElem?, this] at hk
              exact hk
            have hjl := hl j (by omega)
            have : j < p := by omega
            simp [lst, Array.getD_eq_getD_getElem?, hjl, this]
          have := reach_listed hcl ho 5 (ok.suf i (by omega) hi p h) hb
          simp [lst, Array.getD_eq_getD_getElem?, hl p (by omega)] at this
      have ho' : l.toArray[i]? = some o := by simpa using ho
      simp only [h1, decide_false, Bool.not_false, Bool.true_and, ho', Option.map_some, Option.getD_some, this]
      simp [h2]
    simp only [Region.linearise.go]
    simp only [hready]
    by_cases hp : p < l.length
    · simp only [hp, if_true, List.length_singleton, Nat.mod_one, Nat.div_one, List.getElem?_cons_zero]
      rw [linearise_go_acc, List.reverse_singleton, List.singleton_append]
      rw [go_suf ok fuel (p + 1) t (listed.setIfInBounds p true) (by simp [hsz]) (fun j hj => ?_) (by omega) (by omega)]
      · rw [show l.length - p = (l.length - (p + 1)) + 1 by omega, List.range'_succ]
      rw [Array.getElem?_setIfInBounds]
      by_cases e : p = j
      · subst e; simp [hsz, hj]
      simp only [e, if_false, hl j hj]
      have : (j < p) ↔ (j < p + 1) := by omega
      simp [this]
    have : l.length - p = 0 := by omega
    simp [hp, this]
end Go.V
/- STATEMENTS THAT DRAW THEIR ORDER: the rule. -/
namespace Go.V
open Go.RowKit
theorem AIdx.op {C : Ctx} {Q : Post} {ops : Array Oper} {i : Nat} {rest : List Nat} {k : List Item} {env : List D} {H : Heap} {df : List ADef} {o : Oper} {K KP : D → Heap → Prop} (ho : ops[i]? = some o) (hg : gOk ops.toList env o.guard = some true) (h : OpH C o env H K KP)
    (hk : ∀ d H', K d H' → ARun C Q (.inRegion ops rest :: k) (envPut env o.dst d) H' df) (hp : ∀ d H', KP d H' → Q (.pan d) env H' df) : ARun C Q (.inRegion ops (i :: rest) :: k) env H df := by
  refine ⟨fun L0 w0 μ0 H0 w μ a hs hv hd he b cs hrd => ?_⟩
  have hw := gOk_ok (C := C) hv hg
  have h1 := h.out L0 w μ a hs hv
  rcases op_step (rest := rest) ho hw h1 (by rintro ⟨a0, w1, v, d, H', μ', h2, _⟩; cases h2) b (.inr fun dd w' ⟨v, d, H', μ', _, h2, _⟩ => no_defer h2) k cs with
    ⟨a', w', ⟨v, d, H', μ', hK, rfl, hs', hd', he'⟩, hst⟩ | ⟨chain, w', todo, ⟨v, d, H', μ', hch, _, hK, hs', hd', he'⟩, hst⟩
  · have hst' := he'.step L0
    obtain ⟨e, a', w'', h3, h4⟩ := (hk d H' hK).out L0 w0 μ0 H0 w' μ' (a.put o.dst v) hs' (VRs_put (VRs.step hst' hv) hd') (by rw [put_defers]; exact DfR.step hst' hd) (he.trans he') b cs (hrd.step he'.map)
    exact ⟨e, a', w'', h3, .of_steps hst h4⟩
  have hst' := he'.step L0
  injection hch with hch
  subst hch
  exact ⟨.panic (pan1 v), a, w', ⟨.pan d, env, H', μ', df, hp d H' hK, hs', VRs.step hst' hv, DfR.step hst' hd, ⟨v, rfl, hd'⟩, he.trans he'⟩, todo, hst⟩
theorem AIdx.skip {C : Ctx} {Q : Post} {ops : Array Oper} {i : Nat} {rest : List Nat} {k : List Item} {env : List D} {H : Heap} {df : List ADef} {o : Oper} (ho : ops[i]? = some o) (hg : gOk ops.toList env o.guard = some false)
    (hk : ARun C Q (.inRegion ops rest :: k) (envPut env o.dst (.tup [])) H df) : ARun C Q (.inRegion ops (i :: rest) :: k) env H df := by
  refine ⟨fun L0 w0 μ0 H0 w μ a hs hv hd he b cs hrd => ?_⟩
  have hw := gOk_ok (C := C) hv hg
  have hst := stepR_op_skip (P := C.P) (b := b) (a := a) (k := k) (cs := cs) (w := w) (ops := ops) (i := i) (rest := rest) (by simp [ho, hw])
  simp only [ho, Option.bind_some] at hst
  obtain ⟨e, a', w'', h3, h4⟩ := hk.out L0 w0 μ0 H0 w μ (a.put o.dst undef) hs (VRs_put hv (by simp only [VR]; exact ⟨[], rfl, by simp [VRs]⟩)) (by rw [put_defers]; exact hd) he b cs hrd
  exact ⟨e, a', w'', h3, .of_steps (.one hst) h4⟩
theorem least {n : Nat} {p : Nat → Bool} (h : ∃ j, j < n ∧ p j = false) : ∃ j, j < n ∧ p j = false ∧ ∀ i, i < j → p i = true := by
  induction n with
  | zero => obtain ⟨j, h1, _⟩ := h; omega
  | succ n ih =>
    by_cases hx : ∃ j, j < n ∧ p j = false
    · obtain ⟨j, h1, h2⟩ := ih hx
      exact ⟨j, by omega, h2⟩
    obtain ⟨j, h1, h2⟩ := h
    have hjn : j = n := by
      rcases Nat.lt_or_ge j n with h | h
      · exact (hx ⟨j, h, h2⟩).elim
      omega
    subst hjn
    refine ⟨j, h1, h2, fun i hi => ?_⟩
    cases hp : p i with
    | true => rfl
    | false => exact (hx ⟨i, hi, hp⟩).elim
section
variable {C : Ctx} {Q : Post} {l suf : List Oper} {m : Nat} {k : List Item} {env envF : List D} {H : Heap} {df : List ADef} {KP : D → Prop} {G : Prop}
theorem draw_run (ok : OkD l m) (hm : m + suf.length = l.length) (hsuf : l.drop m = suf) {e : Nat → List D} {dv : Nat → D} {g : Nat → Prop} (he0 : e 0 = env) (heF : e m = envF) (hG : (∀ i < m, g i) → G)
    (hat : ∀ (i : Nat) (o : Oper), i < m → l[i]? = some o → e (i + 1) = envPut (e i) o.dst (dv i) ∧ DAt C l.toArray H KP o (e i) (dv i) (g i)) (hp : ∀ env' d, KP d → Q (.pan d) env' H df) (hk : G → AOps C Q l.toArray suf k envF H df) :
    ∀ (fuel t : Nat) (listed : Array Bool), listed.size = l.length → listed.toList.count false = fuel → (∀ j, lst listed j = true → j < m ∧ g j ∧ ∀ i, hasE l j i = true → lst listed i = true) →
      ARun C Q (.inRegion l.toArray (Region.linearise.go .any l.toArray fuel t listed []) :: k) (envS m (dstOf l) dv env (lst listed)) H df := by
  have hlex := envS_lex (m := m) (dst := dstOf l) (dv := dv) (env := env) ok.dist he0 (fun i hi => by
    obtain ⟨o, ho⟩ : ∃ o, l[i]? = some o := ⟨l[i]'(by omega), by simp⟩
    have := (hat i o hi ho).1
    simp only [dstOf, ho, Option.bind_some]
    exact this)
  have full : ∀ (fuel t : Nat) (listed : Array Bool), listed.size = l.length → listed.toList.count false = fuel → (∀ j, lst listed j = true → j < m ∧ g j ∧ ∀ i, hasE l j i = true → lst listed i = true) → (∀ j, j < m → lst listed j = true) →
      ARun C Q (.inRegion l.toArray (Region.linearise.go .any l.toArray fuel t listed []) :: k) (envS m (dstOf l) dv env (lst listed)) H df := by
    intro fuel t listed hsz hcnt hin hall
    have hlst : lst listed = fun j => decide (j < m) := by
      funext j
      cases h : lst listed j with
      | true => simp [(hin j h).1]
      | false =>
        cases h2 : decide (j < m) with
        | false => rfl
        | true => rw [hall j (by simpa using h2)] at h; cases h
    have hget : ∀ j, j < l.length → listed[j]? = some (decide (j < m)) := by
      intro j hj
      have := congrFun hlst j
      simp only [lst, Array.getD_eq_getD_getElem?] at this
      have hx : listed[j]? = some (listed[j]'(by omega)) := by simp [hsz, hj]
      rw [hx] at this ⊢
      simpa using this
    have hlist : listed.toList = List.replicate m true ++ List.replicate suf.length false := by
      apply List.ext_getElem?
      intro j
      rw [List.getElem?_append, List.getElem?_replicate, List.getElem?_replicate, Array.getElem?_toList]
      simp only [List.length_replicate]
      by_cases h : j < m
      · rw [hget j (by omega)]; simp [h]
      by_cases h2 : j < l.length
      · rw [hget j h2]; simp [h]; omega
      rw [Array.getElem?_eq_none (by omega)]; simp [h]; omega
    have hfuel : l.length - m ≤ fuel := by
      rw [hlist] at hcnt
      simp [List.count_append, List.count_replicate] at hcnt
      omega
    rw [go_suf ok fuel m t listed hsz hget (Nat.le_refl _) hfuel, hlst, ← hlex m (Nat.le_refl _), heF]
    have hgG := hG fun i hi => (hin i (hall i hi)).2.1
    have := (hk hgG).out m (by simpa using hsuf)
    rw [show l.length - m = suf.length by omega]
    exact this
  intro fuel
  induction fuel with
  | zero =>
    intro t listed hsz hcnt hin
    refine full 0 t listed hsz hcnt hin fun j hj => ?_
    have : false ∉ listed.toList := List.count_eq_zero.1 hcnt
    unfold lst
    have hx : listed[j]? = some (listed[j]'(by omega)) := by simp
    rw [Array.getD_eq_getD_getElem?, hx]
    cases hb : listed[j]'(by omega) with
    | true => rfl
    | false => exact (this (by rw [← hb]; simp)).elim
  | succ fuel ih =>
    intro t listed hsz hcnt hin
    by_cases hall : ∀ j, j < m → lst listed j = true
    · exact full (fuel + 1) t listed hsz hcnt hin hall
    obtain ⟨p, hp1, hp2, hp3⟩ : ∃ j, j < m ∧ lst listed j = false ∧ ∀ i, i < j → lst listed i = true := by
      apply least
      apply Classical.byContradiction
      intro hn
      apply hall
      intro j hj
      cases h : lst listed j with
      | true => rfl
      | false => exact (hn ⟨j, hj, h⟩).elim
    have getOf : ∀ (d : Bool) (j : Nat), j < l.length → listed.getD j d = lst listed j := by
      intro d j hj
      have hx : listed[j]? = some (listed[j]'(by omega)) := by simp [hsz, hj]
      simp [lst, Array.getD_eq_getD_getElem?, hx]
    let rs := (List.range l.toArray.size).filter fun i => !listed.getD i true && ((l.toArray[i]?).map (·.after.all fun e => !Region.binds .any e || listed.getD e.on false)).getD false
    have hpr : p ∈ rs := by
      obtain ⟨o, ho⟩ : ∃ o, l[p]? = some o := ⟨l[p]'(by omega), by simp⟩
      have ho' : l.toArray[p]? = some o := by simpa using ho
      refine List.mem_filter.2 ⟨by simp; omega, ?_⟩
      simp only [getOf true p (by omega), hp2, Bool.not_false, Bool.true_and, ho', Option.map_some, Option.getD_some]
      apply Array.all_eq_true'.2
      intro e' he'
      cases hb : Region.binds .any e' with
      | false => rfl
      | true => simpa [lst] using hp3 e'.on (ok.back p o ho e' he' hb)
    have hlt : t % rs.length < rs.length := Nat.mod_lt _ (List.length_pos_of_mem hpr)
    have hgo : Region.linearise.go .any l.toArray (fuel + 1) t listed [] = rs[t % rs.length] :: Region.linearise.go .any l.toArray fuel (t / rs.length) (listed.setIfInBounds rs[t % rs.length] true) [] := by
      simp only [Region.linearise.go]
      have hx : rs[t % rs.length]? = some rs[t % rs.length] := by simp [hlt]
      change (match rs[t % rs.length]? with
        | some i => Region.linearise.go .any l.toArray fuel (t / rs.length) (listed.setIfInBounds i true) [i]
        | none => [].reverse) = _
      rw [hx]
      simp only
      rw [linearise_go_acc, List.reverse_singleton, List.singleton_append]
    rw [hgo]
    generalize hi : rs[t % rs.length] = i
    have himem : i ∈ rs := by rw [← hi]; exact List.getElem_mem hlt
    obtain ⟨hir, hready⟩ := List.mem_filter.1 himem
    have hin' : i < l.length := by simpa using hir
    obtain ⟨o, ho⟩ : ∃ o, l[i]? = some o := ⟨l[i], by simp [hin']⟩
    have ho' : l.toArray[i]? = some o := by simpa using ho
    simp only [getOf true i hin', ho', Option.map_some, Option.getD_some, Bool.and_eq_true, Bool.not_eq_true'] at hready
    obtain ⟨hnl, hdep⟩ := hready
    have him : i < m := by
      rcases Nat.lt_or_ge i m with h | h
      · exact h
      exfalso
      have := reach_listed (fun k hk j hj => (hin k hk).2.2 j hj) ho 5 (ok.suf i h hin' p (by omega)) hdep
      rw [hp2] at this
      cases this
    have hnew : ∀ j, lst (listed.setIfInBounds i true) j = if j = i then true else lst listed j := by
      intro j
      unfold lst
      rw [Array.getD_eq_getD_getElem?, Array.getD_eq_getD_getElem?, Array.getElem?_setIfInBounds]
      by_cases e : i = j
      · subst e; simp [hsz, hin']
      have : ¬ j = i := fun h => e h.symm
      simp [e, this]
    have henv : envS m (dstOf l) dv env (lst (listed.setIfInBounds i true)) = envPut (envS m (dstOf l) dv env (lst listed)) o.dst (dv i) := by
      have := envS_put (dv := dv) (env := env) ok.dist (S := lst listed) (S' := lst (listed.setIfInBounds i true)) him (by rw [hnew]; simp) (fun j hj => by rw [hnew]; simp [hj])
      simpa only [dstOf, ho, Option.bind_some] using this
    have hcnt' : (listed.setIfInBounds i true).toList.count false = fuel := by
      have hx : listed.toList[i]? = some false := by
        have := getOf true i hin'
        rw [hnl, Array.getD_eq_getD_getElem?] at this
        have hy : listed[i]? = some (listed[i]'(by omega)) := by simp
        rw [hy] at this
        simp only [Option.getD_some] at this
        rw [Array.getElem?_toList, hy, this]
      rw [Array.toList_setIfInBounds, List.count_set (by simp; omega)]
      have : listed.toList[i]'(by simp; omega) = false := by
        have := List.getElem?_eq_some_iff.1 hx
        exact this.2
      rw [this]
      simp [hcnt]
    have hnext : (g i) → ARun C Q (.inRegion l.toArray (Region.linearise.go .any l.toArray fuel (t / rs.length) (listed.setIfInBounds i true) []) :: k) (envPut (envS m (dstOf l) dv env (lst listed)) o.dst (dv i)) H df := by
      intro hgi
      rw [← henv]
      refine ih _ _ (by simp [hsz]) hcnt' fun j hj => ?_
      rw [hnew] at hj
      by_cases e : j = i
      · subst e
        refine ⟨him, hgi, fun i' hi' => ?_⟩
        rw [hnew]
        by_cases e2 : i' = j
        · simp [e2]
        simp only [e2, if_false]; exact hasE_listed ho hi' hdep
      simp only [e, if_false] at hj
      obtain ⟨a1, a2, a3⟩ := hin j hj
      refine ⟨a1, a2, fun i' hi' => ?_⟩
      rw [hnew]
      by_cases e2 : i' = i
      · simp [e2]
      simp only [e2, if_false]; exact a3 i' hi'
    have hmask : envLe (envS m (dstOf l) dv env (lst listed)) (maskF (o.looksAt l.toArray) 0 (e i)) := by
      rw [hlex i (by omega)]
      refine envLe_of (by simp [envS, maskF_length]) fun u d d' h1 h2 => ?_
      rw [maskF_get, envS_get] at h2
      rw [envS_get] at h1
      cases hu : env[u]? with
      | none => rw [hu] at h1; simp at h1
      | some d0 =>
        rw [hu] at h1 h2
        simp only [Option.map_some, Option.some.injEq, Nat.zero_add] at h1 h2
        cases hc : (o.looksAt l.toArray).contains u with
        | false => rw [hc] at h2; right; rw [← h2]; rfl
        | true =>
          rw [hc] at h2
          left
          rw [← h2, ← h1]
          simp only [cond_true]
          by_cases hx : ∃ j, j < m ∧ dstOf l j = some u
          · obtain ⟨j, hj1, hj2⟩ := hx
            have hiff : lst listed j = decide (j < i) := by
              by_cases e : j = i
              · subst e; rw [hnl]; simp
              obtain ⟨d1, d2⟩ := ok.dep i j o u him hj1 (fun h => e h.symm) ho hj2 hc
              rcases Nat.lt_or_gt_of_ne e with h | h
              · rw [hasE_listed ho (d1 h) hdep]; simp [h]
              have : ¬ j < i := by omega
              simp only [this, decide_false]
              cases hl : lst listed j with
              | false => rfl
              | true =>
                have := (hin j hl).2.2 i (d2 h)
                rw [hnl] at this
                cases this
            cases hb : decide (j < i) with
            | true =>
              exact (slot_some (S := fun j => decide (j < i)) ok.dist hj1 hb hj2).trans (slot_some (S := lst listed) ok.dist hj1 (by rw [hiff]; exact hb) hj2).symm
            | false =>
              rw [slot_none, slot_none]
              · intro j' a1 a2 a3
                have := ok.dist j j' u hj1 a1 hj2 a3
                subst this
                rw [hiff, hb] at a2
                cases a2
              intro j' a1 a2 a3
              have := ok.dist j j' u hj1 a1 hj2 a3
              subst this
              rw [hb] at a2
              cases a2
          rw [slot_none, slot_none]
          · exact fun j a1 _ a3 => hx ⟨j, a1, a3⟩
          exact fun j a1 _ a3 => hx ⟨j, a1, a3⟩
    rcases (hat i o him ho).2 with ⟨hg1, hop⟩ | ⟨hg1, hd, hgi⟩
    · exact AIdx.op ho' (gOk_le hmask hg1) (OpH.le hmask hop) (fun d H' ⟨x, y, z⟩ => by subst y; subst z; exact hnext x) (fun d H' ⟨x, y⟩ => by subst y; exact hp _ _ x)
    exact AIdx.skip ho' (gOk_le hmask hg1) (by rw [← hd]; exact hnext hgi)
theorem ARun.drawn {id : Nat} {n : Nat} {pre : List Oper} (hmix : C.P.follows .mixedOrders = true) (hpre : l.take n = pre) (hsuf : l.drop n = suf) (hB : okDraw l pre.length = true)
    (hch : DCh C l.toArray H KP pre env envF G) (hp : ∀ env' d, KP d → Q (.pan d) env' H df) (hk : G → AOps C Q l.toArray suf k envF H df) : ARun C Q (.code (.region id l.toArray true) :: k) env H df := by
  subst hpre
  subst hsuf
  have hlen : (l.take n).length + (l.drop n).length = l.length := by rw [← List.length_append, List.take_append_drop]
  have hdr : l.drop (l.take n).length = l.drop n := by
    rw [List.length_take]
    rcases Nat.le_total n l.length with h | h
    · rw [Nat.min_eq_left h]
    rw [Nat.min_eq_right h, List.drop_of_length_le (Nat.le_refl _), List.drop_of_length_le h]
  obtain ⟨e, dv, g, h1, h2, h3, h4⟩ := hch.split
  have main := draw_run (OkD.of hB) hlen hdr h1 h2 h3 (fun i o hi ho => h4 i o (by
    rw [List.getElem?_take, if_pos (by rw [List.length_take] at hi; omega)]; exact ho)) hp hk
  refine ⟨fun L0 w0 μ0 H0 w μ a hs hv hd he b cs hrd => ?_⟩
  have hst := stepR_region_draw (P := C.P) (b := b) (a := a) (k := k) (cs := cs) (w := w) (ops := l.toArray) (id := id)
  simp only [Region.schedule, hmix, Bool.true_or, if_true] at hst
  have hlst : lst (Array.replicate l.toArray.size false) = fun _ => false := by
    funext j
    unfold lst
    rw [Array.getD_eq_getD_getElem?, Array.getElem?_replicate]
    split <;> rfl
  have hrun := main l.toArray.size (w.tape w.drawn (.order b.fn id)) (Array.replicate l.toArray.size false) (by simp) (by simp) (by
    intro j hj
    rw [hlst] at hj
    cases hj)
  rw [hlst, envS_empty] at hrun
  have hstep : Step w { w with drawn := w.drawn + 1 } (forb L0 μ H) (forb L0 μ H) μ μ H H :=
    ⟨Nat.le_refl _, fun _ _ _ => rfl, fun _ _ h => h, fun _ _ h => h, fun i x hx => ⟨x, hx, fun o e => ⟨o, e, rfl, rfl, rfl, fun b cur _ h => ⟨cur, h, rfl⟩⟩⟩⟩
  have hevo : Evo w { w with drawn := w.drawn + 1 } μ μ H H :=
    ⟨rfl, rfl, rfl, Nat.le_refl _, fun _ _ _ => rfl, fun _ _ h => h, fun _ _ h => h, fun i x hx => ⟨x, hx, fun o e => ⟨o, e, rfl, rfl, rfl, fun b cur _ h => ⟨cur, h, rfl⟩⟩⟩⟩
  have hs' : SR C L0 { w with drawn := w.drawn + 1 } μ H := hs.next hevo hs.len (fun i o b h1 h2 => (hs.obj i o b h1 h2).same rfl) hs.inj hs.own
  obtain ⟨e', a', w', h5, h6⟩ := hrun.out L0 w0 μ0 H0 _ μ a hs' (VRs.step hstep hv) (DfR.step hstep hd) (he.trans hevo) b cs (hrd.step hevo.map)
  exact ⟨e', a', w', h5, .of_steps (.one hst) h6⟩
end
end Go.V
/- WHAT AN OPERATION YIELDS, types out of the table (printed by genq.py, a program of this session's, out of the rules of VK and VL). -/
namespace Go.V
open Go.RowKit
section
variable {C : Ctx} {env : List D} {H : Heap}
variable {dst : Option Tmp} {op : Op} {ty : TypeId} {pos : String} {aft : Array Edge} {gd : Option (Nat × Bool)} {d : D} {t : Tmp} {x y z : Operand} {T e : TypeId} {te tee : TE}
theorem q_move (h : evO C env x = some d) : OpQ C ⟨dst, .move x, ty, pos, aft, gd⟩ env H d :=
  (o_move h)
theorem ZeZ (h : evO C env x = some d) : OpQ C ⟨dst, .assign x, ty, pos, aft, gd⟩ env H d :=
  (Zgd h)
theorem q_pick {b : Bool} {d1 d2 : D} (h : evO C env x = some (.bool b)) (h1 : evO C env y = some d1) (h2 : evO C env z = some d2) (hd : (bif b then d1 else d2) = d) : OpQ C ⟨dst, .pick x y z, ty, pos, aft, gd⟩ env H d :=
  by have := o_pick (H := H) (dst := dst) (ty := ty) (pos := pos) (aft := aft) (gd := gd) h h1 h2; rw [← hd]; cases b <;> exact this
theorem q_int {bop : BinOp} {ik : IntKind} {m n : Int} {xt yt : TypeId} (hx : evO C env x = some (.int ik m)) (hy : evO C env y = some (.int ik n)) (h : intBin bop ik m n = some d) : OpQ C ⟨dst, .binOp bop xt x y yt, ty, pos, aft, gd⟩ env H d :=
  (o_int hx hy h)
theorem q_add {ik : IntKind} {m n r : Int} {xt yt : TypeId} (hx : evO C env x = some (.int ik m)) (hy : evO C env y = some (.int ik n)) (h : ik.wrap (m + n) = r) : OpQ C ⟨dst, .binOp .add xt x y yt, ty, pos, aft, gd⟩ env H (.int ik r) :=
  (o_add hx hy h)
theorem q_quo {ik : IntKind} {m n r : Int} {xt yt : TypeId} (hx : evO C env x = some (.int ik m)) (hy : evO C env y = some (.int ik n)) (h0 : n ≠ 0) (hr : ik.wrap (m.tdiv n) = r) : OpQ C ⟨dst, .binOp .quo xt x y yt, ty, pos, aft, gd⟩ env H (.int ik r) :=
  (o_quo hx hy h0 hr)
theorem q_rem {ik : IntKind} {m n r : Int} {xt yt : TypeId} (hx : evO C env x = some (.int ik m)) (hy : evO C env y = some (.int ik n)) (h0 : n ≠ 0) (hr : m.tmod n = r) : OpQ C ⟨dst, .binOp .rem xt x y yt, ty, pos, aft, gd⟩ env H (.int ik r) :=
  (o_rem hx hy h0 hr)
theorem q_shl {ik ik' : IntKind} {m n r : Int} {xt yt : TypeId} (hx : evO C env x = some (.int ik m)) (hy : evO C env y = some (.int ik' n)) (h0 : 0 ≤ n) (hr : ik.wrap (m * 2 ^ min n.toNat ik.bits) = r) : OpQ C ⟨dst, .binOp .shl xt x y yt, ty, pos, aft, gd⟩ env H (.int ik r) :=
  (o_shl hx hy h0 hr)
theorem q_shr {ik ik' : IntKind} {m n r : Int} {xt yt : TypeId} (hx : evO C env x = some (.int ik m)) (hy : evO C env y = some (.int ik' n)) (h0 : 0 ≤ n) (hr : m.fdiv (2 ^ min n.toNat ik.bits) = r) : OpQ C ⟨dst, .binOp .shr xt x y yt, ty, pos, aft, gd⟩ env H (.int ik r) :=
  (o_shr hx hy h0 hr)
theorem ZgF {ik : IntKind} {m r : Int} {xt : TypeId} (hx : evO C env x = some (.int ik m)) (hr : ik.wrap (BitVec.ofInt ik.bits (if ik.signed then -1 else ik.max) ^^^ BitVec.ofInt ik.bits m).toNat = r) : OpQ C ⟨dst, .unOp .xor xt x, ty, pos, aft, gd⟩ env H (.int ik r) :=
  (Zgw hx hr)
theorem q_not {b : Bool} {xt : TypeId} (hx : evO C env x = some (.bool b)) : OpQ C ⟨dst, .unOp .not xt x, ty, pos, aft, gd⟩ env H (.bool (!b)) :=
  (o_not hx)
theorem q_conv {ik ik' : IntKind} {m r : Int} {s t : TypeId} {sz by_ : Nat} {zv : Value} (hx : evO C env x = some (.int ik m)) (hs : C.ty s = some te) (ht : C.ty t = some ⟨.int ik', sz, by_, zv⟩) (hr : ik'.wrap m = r) : OpQ C ⟨dst, .convert s t x, ty, pos, aft, gd⟩ env H (.int ik' r) :=
  (ZfU (ty_un hs) (ty_int ht) hx hr)
theorem ZaW {s t : ByteArray} {xt yt : TypeId} (hx : evO C env x = some (.str s)) (hy : evO C env y = some (.str t)) (h : s.size + t.size ≤ 9223372036854775807) : OpQ C ⟨dst, .binOp .add xt x y yt, ty, pos, aft, gd⟩ env H (.str (s ++ t)) :=
  (Zge hx hy h)
theorem Ze0 {s t : ByteArray} {xt yt : TypeId} (hx : evO C env x = some (.str s)) (hy : evO C env y = some (.str t)) : OpQ C ⟨dst, .binOp .eql xt x y yt, ty, pos, aft, gd⟩ env H (.bool (s.toList == t.toList)) :=
  (Zgx hx hy)
theorem ZfZ {s t : ByteArray} {xt yt : TypeId} (hx : evO C env x = some (.str s)) (hy : evO C env y = some (.str t)) : OpQ C ⟨dst, .binOp .neq xt x y yt, ty, pos, aft, gd⟩ env H (.bool (!(s.toList == t.toList))) :=
  (Zgy hx hy)
theorem Zeq {cs : List D} {i : Nat} (hx : evO C env x = some (.tup cs)) (hi : cs[i]? = some d) : OpQ C ⟨dst, .extract x i, ty, pos, aft, gd⟩ env H d :=
  (ZfV hx hi)
theorem ZfE {f : FuncId} {caps : List Operand} {ds : List D} (h : evOs C env caps = some ds) : OpQ C ⟨dst, .makeFunc (.func f) #[] caps.toArray, ty, pos, aft, gd⟩ env H (.clos f ds) :=
  (ZfG h)
theorem Zfb (hx : evO C env x = some d) (ht : C.ty T = some te) (hc : conK te.k = true) : OpQ C ⟨dst, .makeInterface T x, ty, pos, aft, gd⟩ env H (.iface T d) :=
  (Zfm (ty_con ht hc) hx)
theorem q_nil (hx : evO C env x = some d) (hd : d.there = true) : OpQ C ⟨dst, .nilCheck x, ty, pos, aft, gd⟩ env H d :=
  (ZfH hx hd)
theorem q_load {cs : List D} (hx : evO C env x = some (.sptr cs)) (ht : C.ty T = some te) (ha : aggK te.k = false) (hd : cs[0]? = some d) : OpQ C ⟨dst, .load T x, ty, pos, aft, gd⟩ env H d :=
  (o_load (ty_tic ht).1 ((ty_tic ht).2.trans ha) hx hd)
theorem Zaa {i off : Nat} {o : AObj} (hx : evO C env x = some (.ptr i off)) (ht : C.ty T = some te) (ha : aggK te.k = false) (ho : H[i]? = some (some o)) (hd : o.cells[off]? = some d) : OpQ C ⟨dst, .load T x, ty, pos, aft, gd⟩ env H d :=
  (Zgz (ty_tic ht).1 ((ty_tic ht).2.trans ha) hx ho hd)
theorem ZaR {cs ds : List D} (hx : evO C env x = some (.sptr cs)) (ht : C.ty T = some te) (ha : aggK te.k = true) (hd : cs.take te.size = ds) (hl : ds.length = te.size) : OpQ C ⟨dst, .load T x, ty, pos, aft, gd⟩ env H (.agg ds) :=
  (ZfW (ty_tic ht).1 ((ty_tic ht).2.trans ha) hx hd hl)
theorem Zaf {i off : Nat} {o : AObj} {ds : List D} (hx : evO C env x = some (.ptr i off)) (ht : C.ty T = some te) (ha : aggK te.k = true) (ho : H[i]? = some (some o)) (hd : (o.cells.drop off).take te.size = ds) (hl : ds.length = te.size) : OpQ C ⟨dst, .load T x, ty, pos, aft, gd⟩ env H (.agg ds) :=
  (ZfI (ty_tic ht).1 ((ty_tic ht).2.trans ha) hx ho hd hl)
theorem q_fldP {i off f o sz S b : Nat} {zv : Value} {pl : List (Nat × Nat)} (hx : evO C env x = some (.ptr i off)) (hs : C.ty T = some ⟨.struct pl, S, b, zv⟩) (hf : pl[f]? = some (o, sz)) (h0 : sz ≠ 0) : OpQ C ⟨dst, .fieldAddr T x f, ty, pos, aft, gd⟩ env H (.ptr i (off + o)) :=
  (o_fldP (ty_struct hs) hf h0 hx)
theorem q_fldS {f o sz S b : Nat} {cs : List D} {zv : Value} {pl : List (Nat × Nat)} (hx : evO C env x = some (.sptr cs)) (hs : C.ty T = some ⟨.struct pl, S, b, zv⟩) (hf : pl[f]? = some (o, sz)) (h0 : sz ≠ 0) : OpQ C ⟨dst, .fieldAddr T x f, ty, pos, aft, gd⟩ env H (.sptr (cs.drop o)) :=
  (o_fldS (ty_struct hs) hf h0 hx)
theorem Zav {n S b : Nat} {cs ds : List D} {ik : IntKind} {i : Int} {zv : Value} (hx : evO C env x = some (.sl n cs)) (hy : evO C env y = some (.int ik i)) (ht : C.ty T = some ⟨.slice e, S, b, zv⟩) (hee : C.ty e = some tee) (h0 : 0 ≤ i) (h1 : i < n) (hne : cs ≠ []) (hd : cs.drop (i.toNat * tee.size) = ds) : OpQ C ⟨dst, .indexAddr T x y, ty, pos, aft, gd⟩ env H (.sptr ds) :=
  by subst hd; exact (ZfX (ty_slice ht) (ty_tic hee).1 hx hy h0 h1 hne)
theorem ZbG {id n S b : Nat} {o : AObj} {ik : IntKind} {i : Int} {zv : Value} {j : Nat} (hx : evO C env x = some (.row id n)) (hy : evO C env y = some (.int ik i)) (ht : C.ty T = some ⟨.slice e, S, b, zv⟩) (hee : C.ty e = some tee) (ho : H[id]? = some (some o)) (h0 : 0 ≤ i) (h1 : i < n) (hj : i.toNat * tee.size = j) : OpQ C ⟨dst, .indexAddr T x y, ty, pos, aft, gd⟩ env H (.ptr id j) :=
  by subst hj; exact (ZfJ (ty_slice ht) (ty_tic hee).1 hx ho hy h0 h1)
theorem Zbw {n id off S b : Nat} {ik : IntKind} {i : Int} {zv : Value} {j : Nat} (hx : evO C env x = some (.ptr id off)) (hy : evO C env y = some (.int ik i)) (ht : C.ty T = some ⟨.array n e, S, b, zv⟩) (hee : C.ty e = some tee) (h0 : 0 ≤ i) (h1 : i < n) (hj : off + i.toNat * tee.size = j) : OpQ C ⟨dst, .indexAddr T x y, ty, pos, aft, gd⟩ env H (.ptr id j) :=
  by subst hj; exact (Zfn (ty_array ht) (ty_tic hee).1 hx hy h0 h1)
theorem Zb0 {n S b : Nat} {cs ds : List D} {ik : IntKind} {i : Int} {zv : Value} (hx : evO C env x = some (.sptr cs)) (hy : evO C env y = some (.int ik i)) (ht : C.ty T = some ⟨.array n e, S, b, zv⟩) (hee : C.ty e = some tee) (h0 : 0 ≤ i) (h1 : i < n) (hd : cs.drop (i.toNat * tee.size) = ds) : OpQ C ⟨dst, .indexAddr T x y, ty, pos, aft, gd⟩ env H (.sptr ds) :=
  by subst hd; exact (Zfo (ty_array ht) (ty_tic hee).1 hx hy h0 h1)
theorem Zaq {s : ByteArray} {ik : IntKind} {i r : Int} {S b : Nat} {zv : Value} (hx : evO C env x = some (.str s)) (hy : evO C env y = some (.int ik i)) (ht : C.ty T = some ⟨.str, S, b, zv⟩) (h0 : 0 ≤ i) (h1 : i.toNat < s.size) (hr : ((s[i.toNat]'h1).toNat : Int) = r) : OpQ C ⟨dst, .index T x y, ty, pos, aft, gd⟩ env H (.int .u8 r) :=
  by subst hr; exact (ZfK (ty_str ht) hx hy h0 h1)
theorem ZgG {n S b : Nat} {cs : List D} {zv : Value} (hx : evO C env x = some (.sl n cs)) (ht : C.ty T = some ⟨.slice e, S, b, zv⟩) : OpQ C ⟨dst, .call ⟨.builtin .len, #[x], #[T]⟩, ty, pos, aft, gd⟩ env H (.int .i64 n) :=
  (ZgB (ty_slice ht) hx)
theorem Ze1 {S b : Nat} {zv : Value} (hx : evO C env x = some .nilsl) (ht : C.ty T = some ⟨.slice e, S, b, zv⟩) : OpQ C ⟨dst, .call ⟨.builtin .len, #[x], #[T]⟩, ty, pos, aft, gd⟩ env H (.int .i64 0) :=
  (Zgf (ty_slice ht) hx)
theorem Zen {id n S b : Nat} {o : AObj} {zv : Value} (hx : evO C env x = some (.row id n)) (ho : H[id]? = some (some o)) (ht : C.ty T = some ⟨.slice e, S, b, zv⟩) : OpQ C ⟨dst, .call ⟨.builtin .len, #[x], #[T]⟩, ty, pos, aft, gd⟩ env H (.int .i64 n) :=
  (Zgg (ty_slice ht) hx ho)
theorem Zae {s : ByteArray} {S b : Nat} {zv : Value} (hx : evO C env x = some (.str s)) (ht : C.ty T = some ⟨.str, S, b, zv⟩) : OpQ C ⟨dst, .call ⟨.builtin .len, #[x], #[T]⟩, ty, pos, aft, gd⟩ env H (.int .i64 s.size) :=
  (Zgh (ty_str ht) hx)
theorem q_max {ik : IntKind} {m n : Int} {t t' : TypeId} (hx : evO C env x = some (.int ik m)) (hy : evO C env y = some (.int ik n)) : OpQ C ⟨dst, .call ⟨.builtin .max, #[x, y], #[t, t']⟩, ty, pos, aft, gd⟩ env H (.int ik (max m n)) :=
  (o_max hx hy)
theorem q_min {ik : IntKind} {m n : Int} {t t' : TypeId} (hx : evO C env x = some (.int ik m)) (hy : evO C env y = some (.int ik n)) : OpQ C ⟨dst, .call ⟨.builtin .min, #[x, y], #[t, t']⟩, ty, pos, aft, gd⟩ env H (.int ik (min m n)) :=
  (o_min hx hy)
theorem Za8 {pl : List (Nat × Nat)} {S b : Nat} {zv : Value} {zs cs : List D} {parts : List (Nat × Operand)} {ps : List (Nat × D)} (hs : C.ty T = some ⟨.struct pl, S, b, zv⟩) (hz : constD zv = some (.agg zs)) (hps : (parts.mapM fun p => (evO C env p.2).map fun d => (p.1, d)) = some ps) (hok : okParts H ps = true) (hf : fillD (pl[·]?) zs ps = some cs) : OpQ C ⟨dst, .build T parts.toArray, ty, pos, aft, gd⟩ env H (.agg cs) :=
  (ZgD (ty_tic hs).1 (ty_struct hs) hz hps hok hf)
end
end Go.V
/- THE RULES THAT A PRINTED PROOF USES: slots told anew by instances; new objects; calls; loops; tests. -/
namespace Go.V
open Go.RowKit
class PutL {α : Type} (l : List α) (i : Nat) (a : α) (l' : outParam (List α)) : Prop where
  eq : l.set i a = l'
instance PutL.zero {α : Type} {a b : α} {l : List α} : PutL (a :: l) 0 b (b :: l) := ⟨rfl⟩
instance PutL.succ {α : Type} {a b : α} {l l' : List α} {n : Nat} [h : PutL l n b l'] : PutL (a :: l) (n + 1) b (a :: l') := ⟨by simp [h.eq]⟩
class AppL {α : Type} (l : List α) (a : α) (n : outParam Nat) (l' : outParam (List α)) : Prop where
  len : l.length = n
  eq : l ++ [a] = l'
section
variable {α : Type} {a b c d e f g h i : α}
instance AppL.a0 : AppL [] a 0 [a] := ⟨rfl, rfl⟩
instance AppL.a1 : AppL [b] a 1 [b, a] := ⟨rfl, rfl⟩
instance AppL.a2 : AppL [b, c] a 2 [b, c, a] := ⟨rfl, rfl⟩
instance AppL.a3 : AppL [b, c, d] a 3 [b, c, d, a] := ⟨rfl, rfl⟩
instance AppL.a4 : AppL [b, c, d, e] a 4 [b, c, d, e, a] := ⟨rfl, rfl⟩
instance AppL.a5 : AppL [b, c, d, e, f] a 5 [b, c, d, e, f, a] := ⟨rfl, rfl⟩
instance AppL.a6 : AppL [b, c, d, e, f, g] a 6 [b, c, d, e, f, g, a] := ⟨rfl, rfl⟩
instance AppL.a7 : AppL [b, c, d, e, f, g, h] a 7 [b, c, d, e, f, g, h, a] := ⟨rfl, rfl⟩
instance AppL.a8 : AppL [b, c, d, e, f, g, h, i] a 8 [b, c, d, e, f, g, h, i, a] := ⟨rfl, rfl⟩
end
class Puts (env : List D) (l : List (Nat × D)) (env' : outParam (List D)) : Prop where
  len : env.length = env'.length
instance Puts.nil {env : List D} : Puts env [] env := ⟨rfl⟩
instance Puts.cons {env e1 e2 : List D} {t : Nat} {d : D} {l : List (Nat × D)} [h1 : Put env (some t) d e1] [h2 : Puts e1 l e2] : Puts env ((t, d) :: l) e2 :=
  ⟨by have := h1.eq; have h3 := h2.len; simp only [envPut] at this; rw [← h3, ← this]; simp⟩
def OpN (C : Ctx) (o : Oper) (env : List D) (H : Heap) (d : D) (H' : Heap) : Prop := OpH C o env H (fun d' h' => d' = d ∧ h' = H') (fun _ _ => False)
section
variable {C : Ctx} {Q : Post} {ops : Array Oper} {rest : List Oper} {k : List Item} {env env' : List D} {H H' : Heap} {df : List ADef} {o : Oper}
variable {dst : Option Tmp} {op : Op} {ty : TypeId} {pos : String} {aft : Array Edge} {gd : Option (Nat × Bool)} {d : D} {t : Tmp} {x y z : Operand} {T e : TypeId} {te tee : TE}
theorem y_op (hg : gOk ops.toList env o.guard = some true) (h : OpQ C o env H d) [hp : Put env o.dst d env'] (hk : AOps C Q ops rest k env' H df) : AOps C Q ops (o :: rest) k env H df :=
  AOps.op hg h (by rw [hp.eq]; exact hk)
theorem y_new (hg : gOk ops.toList env o.guard = some true) (h : OpN C o env H d H') [hp : Put env o.dst d env'] (hk : AOps C Q ops rest k env' H' df) : AOps C Q ops (o :: rest) k env H df :=
  AOps.opH hg h (fun d' h' ⟨h1, h2⟩ => by subst h1; subst h2; rw [hp.eq]; exact hk) (fun _ _ h => h.elim)
theorem y_skip (hg : gOk ops.toList env o.guard = some false) [hp : Put env o.dst (.tup []) env'] (hk : AOps C Q ops rest k env' H df) : AOps C Q ops (o :: rest) k env H df :=
  AOps.skip hg (by rw [hp.eq]; exact hk)
theorem AOps.bool {b : Bool} {e1 e2 : List D} (t : Nat) (hb : env[t]? = some (.bool b)) [h1 : PutL env t (.bool true) e1] [h2 : PutL env t (.bool false) e2] (k1 : b = true → AOps C Q ops rest k e1 H df) (k2 : b = false → AOps C Q ops rest k e2 H df) : AOps C Q ops rest k env H df := by
  have same : env.set t (.bool b) = env := by
    apply List.ext_getElem?
    intro j
    rw [List.getElem?_set]
    by_cases h : t = j
    · subst h; rw [hb]; simp; exact (List.getElem?_eq_some_iff.1 hb).1
    simp [h]
  cases b with
  | true => have := h1.eq; rw [same] at this; rw [this]; exact k1 rfl
  | false => have := h2.eq; rw [same] at this; rw [this]; exact k2 rfl
theorem ARun.condT {c : Operand} {u v : Code} (hc : evO C env c = some (.bool true)) (hx : ARun C Q (.code u :: k) env H df) : ARun C Q (.code (.cond c u v) :: k) env H df :=
  ARun.cond hc (fun _ => hx) (fun h => by cases h)
theorem ARun.condF {c : Operand} {u v : Code} (hc : evO C env c = some (.bool false)) (hx : ARun C Q (.code v :: k) env H df) : ARun C Q (.code (.cond c u v) :: k) env H df :=
  ARun.cond hc (fun h => by cases h) (fun _ => hx)
theorem ARun.ite {c : Operand} {u v : Code} {p : Prop} [dp : Decidable p] (hc : evO C env c = some (.bool (decide p))) (hx : p → ARun C Q (.code u :: k) env H df) (hy : ¬ p → ARun C Q (.code v :: k) env H df) : ARun C Q (.code (.cond c u v) :: k) env H df :=
  ARun.cond hc (fun h => hx (of_decide_eq_true h)) (fun h => hy (of_decide_eq_false h))
theorem ARun.loopI {S : Type} {c : Code} {E : S → List D} (cs : S → List (Nat × D)) (HS : S → Heap) (Inv : S → Prop) (ms : S → Nat) (s0 : S) [hE : ∀ s, Puts env (cs s) (E s)] (h0 : Inv s0) (hle : envLe env (E s0)) (hH : H = HS s0)
    (step : ∀ s, Inv s → (∀ s', Inv s' → ms s' < ms s → ARun C Q (.inLoop c :: k) (E s') (HS s') df) → ARun C Q (.code c :: .inLoop c :: k) (E s) (HS s) df) : ARun C Q (.code (.loop c) :: k) env H df := by
  have key : ∀ (n : Nat) (s : S), ms s < n → Inv s → ARun C Q (.code c :: .inLoop c :: k) (E s) (HS s) df := by
    intro n
    induction n with
    | zero => intro s h; omega
    | succ n ih =>
      intro s hn hi
      exact step s hi fun s' hi' hlt => ARun.inLoop (ih s' (by omega) hi')
  rw [hH]
  exact ARun.loop (ARun.env hle (key _ s0 (Nat.lt_succ_self _) h0))
theorem ARun.again {env1 : List D} {H1 : Heap} (h : ARun C Q k env1 H1 df) (hle : envLe env env1) (hH : H = H1) : ARun C Q k env H df := by
  rw [hH]; exact ARun.env hle h
/-! ### New objects -/
theorem n_box {ds : List D} {n : Nat} [ap : AppL H (some ⟨ds, T, 1, true, none⟩) n H'] (hx : evO C env x = some d) (hd : cellsD d = some ds) (hok : ds.all (okCell H) = true) : OpN C ⟨dst, .box T x, ty, pos, aft, gd⟩ env H (.ptr n 0) H' := by
  have h := o_box (C := C) (dst := dst) (ty := ty) (pos := pos) (aft := aft) (gd := gd) (T := T) hx hd hok
  unfold OpN
  rw [← ap.len, ← ap.eq]
  exact h
theorem Zbk {dz : D} {ds : List D} {n : Nat} [ap : AppL H (some ⟨ds, T, 1, true, none⟩) n H'] (ht : C.ty T = some te) (hz : constD te.zero = some dz) (hd : cellsD dz = some ds) (hok : ds.all (okCell H) = true) : OpN C ⟨dst, .alloc T, ty, pos, aft, gd⟩ env H (.ptr n 0) H' := by
  have h := ZgC (C := C) (env := env) (dst := dst) (ty := ty) (pos := pos) (aft := aft) (gd := gd) (T := T) (ty_tic ht).1 hz hd hok
  unfold OpN
  rw [← ap.len, ← ap.eq]
  exact h
theorem Zfc {n i S b : Nat} {zv : Value} {zs cs : List D} {dz : D} {parts : List (Nat × Operand)} {ps : List (Nat × D)} (ht : C.ty T = some ⟨.slice e, S, b, zv⟩) (hee : C.ty e = some tee) (hz : constD tee.zero = some dz) (hzs : cellsD dz = some zs) (hzk : zs.all (okCell H) = true) (hzl : zs.length = tee.size)
    (hps : (parts.mapM fun p => (evO C env p.2).map fun d => (p.1, d)) = some ps) (hok : okParts H ps = true) (hf : fillD (fun i => some (i * tee.size, tee.size)) (List.flatten (List.replicate n zs)) ps = some cs) (hck : cs.all (okCell H) = true) (hcl : cs.length = n * tee.size) (hn : n * tee.size ≤ 16777216) (h0 : 0 < tee.size) [ap : AppL H (some ⟨cs, e, tee.size, true, none⟩) i H'] : OpN C ⟨dst, .buildSlice T n parts.toArray, ty, pos, aft, gd⟩ env H (.row i n) H' := by
  have h := Zfa (C := C) (H := H) (dst := dst) (ty := ty) (pos := pos) (aft := aft) (gd := gd) (ty_slice ht) (ty_tic hee).1 hz hzs hzk hzl hps hok hf hck hcl hn h0
  unfold OpN
  rw [← ap.len, ← ap.eq]
  exact h
theorem Zac {i off : Nat} {ob : AObj} {kt : TK} {b : Nat} {zv : Value} {cs : List D} [pl : PutL H i (some { ob with cells := cs }) H'] (hx : evO C env x = some (.ptr i off)) (hy : evO C env y = some d) (ht : C.ty T = some ⟨kt, 1, b, zv⟩) (hok : okCell H d = true) (ho : H[i]? = some (some ob)) (hl : ob.live = true) (hoff : off < ob.cells.length) (hcs : ob.cells.set off d = cs) :
    OpN C ⟨dst, .store T x y, ty, pos, aft, gd⟩ env H (.tup []) H' := by
  subst hcs
  have h := Zgi (C := C) (dst := dst) (ty := ty) (pos := pos) (aft := aft) (gd := gd) (ty_tic ht).1 hx hy hok ho hl hoff
  unfold OpN
  rw [← pl.eq]
  exact h
theorem Zaw {i off : Nat} {ob : AObj} {ds cs : List D} [pl : PutL H i (some { ob with cells := cs }) H'] (hx : evO C env x = some (.ptr i off)) (hy : evO C env y = some d) (ht : C.ty T = some te) (hc : cellsD d = some ds) (hn : ds.length = te.size) (hok : ds.all (okCell H) = true) (ho : H[i]? = some (some ob)) (hl : ob.live = true) (hoff : off + ds.length ≤ ob.cells.length) (hcs : setAt ob.cells off ds = cs) (hsp : ob.sp = none := by rfl) :
    OpN C ⟨dst, .store T x y, ty, pos, aft, gd⟩ env H (.tup []) H' := by
  subst hcs
  have h := Zgj (C := C) (dst := dst) (ty := ty) (pos := pos) (aft := aft) (gd := gd) (ty_tic ht).1 hx hy hc hn hok ho hl hoff hsp
  unfold OpN
  rw [← pl.eq]
  exact h
/-! ### Calls -/
theorem FzL.sames : ∀ {H : Heap} (ds : List D), FzL H ds ds []
  | _, [] => .nil
  | H, d :: ds => by have := FzL.cons (Fz.same (H := H) d) (FzL.sames ds); simpa using this
theorem q_call {f : FuncId} {caps ds : List D} {args : List Operand} {tys : Array TypeId} (hx : evO C env x = some (.clos f caps)) (ha : evOs C env args = some ds) (hc : PC C f (ds ++ caps) (fun o => o = .ret d)) : OpQ C ⟨dst, .call ⟨.value x, args.toArray, tys⟩, ty, pos, aft, gd⟩ env H d :=
  OpH.mono (fun d' H' ⟨h1, h2⟩ => by injection h2 with h2; exact ⟨h2, h1⟩) (fun d' H' ⟨_, h2⟩ => by cases h2) (o_call (H := H) (ids := []) hx ha (FzL.sames _) (hc H))
theorem PC.run {f : FuncId} {fn : Func} {c : Code} {args : List D} {r : Out → Prop} {n : Nat} (hf : C.P.funcs[f]? = some fn) (hen : Enters C.P f) (hb : fn.body = some c) (hn : fn.ntmps = n) (hp : D.pure.pures args = true) {rs : List ResultVar} (hrs : fn.results.toList = rs) {env0 : List D} (he : args ++ List.replicate (n - args.length) (.tup []) = env0)
    (h : ARun C (QFin C rs (fun o _ => o.pure = true ∧ r o)) [.code c] env0 [] []) : PC C f args r := by
  subst hrs; subst he
  exact PC.of_nil (HC.of_run hf hen hb hn h) hp
end
/-! ### Numbers in rows -/
abbrev nts (k : IntKind) (xs : List Nat) : List D := xs.map fun (n : Nat) => D.int k (n : Int)
theorem nts_load {k : IntKind} {xs : List Nat} {i : Nat} (h : i < xs.length) : ((nts k xs).drop i)[0]? = some (D.int k (xs.getD i 0 : Nat)) := by
  simp [nts, List.getElem?_drop, h]
theorem nts_get {k : IntKind} {xs : List Nat} {i : Nat} (h : i < xs.length) : (nts k xs)[i]? = some (D.int k (xs.getD i 0 : Nat)) := by
  simp [nts, h]
theorem nts_set {k : IntKind} {xs : List Nat} {i v : Nat} : (nts k xs).set i (D.int k (v : Int)) = nts k (xs.set i v) := by
  simp [nts, List.map_set]
end Go.V
namespace Go.V
theorem envLe_nil : envLe [] [] := trivial
theorem envLe_any {d : D} {ds es : List D} (h : envLe ds es) : envLe (d :: ds) (.any :: es) := ⟨.inr rfl, h⟩
theorem envLe_same {d : D} {ds es : List D} (h : envLe ds es) : envLe (d :: ds) (d :: es) := ⟨.inl rfl, h⟩
end Go.V
namespace Go.V
def U32 (xs : List Nat) : Prop := ∀ x ∈ xs, x < 4294967296
theorem U32.get {xs : List Nat} (h : U32 xs) (i : Nat) : xs.getD i 0 < 4294967296 := by
  rw [List.getD_eq_getElem?_getD]
  cases hi : xs[i]? with
  | none => simp
  | some x => simpa using h x (List.mem_of_getElem? hi)
end Go.V
namespace Go.V
open Go.RowKit
theorem maxLen_eq : maxLen = 9223372036854775807 := rfl
end Go.V
namespace Go.V
theorem bnd_int {C : Ctx} {env : List D} {x : Operand} {ik : IntKind} {i : Int} {d : Nat} (h : evO C env x = some (.int ik i)) (h0 : 0 ≤ i) : bndO C env d (some x) = some i.toNat := by
  simp only [bndO, h, h0, if_true]
theorem bnd_nat {C : Ctx} {env : List D} {x : Operand} {ik : IntKind} {i : Int} {d n : Nat} (h : evO C env x = some (.int ik i)) (h0 : i = n) : bndO C env d (some x) = some n := by
  rw [bnd_int h (by omega)]; simp [h0]
end Go.V
namespace Go.V
open Go.RowKit
theorem nadd1_i64 {m : Nat} (h : m + 1 ≤ 9223372036854775807) : IntKind.i64.wrap ((m : Int) + 1) = ((m + 1 : Nat) : Int) := by
  rw [IntWalk.i64_in _ (by omega)]; omega
theorem nconv_i64 {n : Nat} (h : n ≤ 9223372036854775807) : IntKind.i64.wrap (n : Int) = ((n : Nat) : Int) := IntWalk.i64_in _ (by omega)
end Go.V
namespace Go.V
section
variable {C : Ctx} {env : List D} {H : Heap} {dst : Option Tmp} {ty : TypeId} {pos : String} {aft : Array Edge} {gd : Option (Nat × Bool)} {x y : Operand}
theorem q_maxR {ik : IntKind} {m n r : Int} {t t' : TypeId} (hx : evO C env x = some (.int ik m)) (hy : evO C env y = some (.int ik n)) (hr : max m n = r) : OpQ C ⟨dst, .call ⟨.builtin .max, #[x, y], #[t, t']⟩, ty, pos, aft, gd⟩ env H (.int ik r) := by
  subst hr; exact q_max hx hy
theorem q_minR {ik : IntKind} {m n r : Int} {t t' : TypeId} (hx : evO C env x = some (.int ik m)) (hy : evO C env y = some (.int ik n)) (hr : min m n = r) : OpQ C ⟨dst, .call ⟨.builtin .min, #[x, y], #[t, t']⟩, ty, pos, aft, gd⟩ env H (.int ik r) := by
  subst hr; exact q_min hx hy
end
theorem drop_nat {α : Type} {l : List α} {x : Int} {i : Nat} (h : x = (i : Int)) : l.drop (x.toNat * 1) = l.drop i := by subst h; simp
section
variable {C : Ctx} {Q : Post} {ops : Array Oper} {rest : List Oper} {k : List Item} {env env' : List D} {H H' : Heap} {df : List ADef} {dst : Option Tmp} {ty : TypeId} {pos : String} {aft : Array Edge} {gd : Option (Nat × Bool)} {d : D} {x y z : Operand} {T e : TypeId} {te : TE}
theorem zzm [hp : Put env dst d env'] (hk : AOps C Q ops rest k env' H df) (hg : gOk ops.toList env gd = some true := by rfl) (h : evO C env x = some d := by rfl) : AOps C Q ops (⟨dst, .move x, ty, pos, aft, gd⟩ :: rest) k env H df := y_op hg (q_move h) hk
theorem zza [hp : Put env dst d env'] (hk : AOps C Q ops rest k env' H df) (hg : gOk ops.toList env gd = some true := by rfl) (h : evO C env x = some d := by rfl) : AOps C Q ops (⟨dst, .assign x, ty, pos, aft, gd⟩ :: rest) k env H df := y_op hg (ZeZ h) hk
theorem zzp {b : Bool} {d1 d2 : D} [hp : Put env dst d env'] (hk : AOps C Q ops rest k env' H df) (hg : gOk ops.toList env gd = some true := by rfl) (h : evO C env x = some (.bool b) := by rfl) (h1 : evO C env y = some d1 := by rfl) (h2 : evO C env z = some d2 := by rfl) (hd : (bif b then d1 else d2) = d := by rfl) : AOps C Q ops (⟨dst, .pick x y z, ty, pos, aft, gd⟩ :: rest) k env H df := y_op hg (q_pick h h1 h2 hd) hk
theorem zzi {bop : BinOp} {ik : IntKind} {m n : Int} {xt yt : TypeId} [hp : Put env dst d env'] (hk : AOps C Q ops rest k env' H df) (hg : gOk ops.toList env gd = some true := by rfl) (hx : evO C env x = some (.int ik m) := by rfl) (hy : evO C env y = some (.int ik n) := by rfl) (h : intBin bop ik m n = some d := by rfl) : AOps C Q ops (⟨dst, .binOp bop xt x y yt, ty, pos, aft, gd⟩ :: rest) k env H df := y_op hg (q_int hx hy h) hk
theorem zze {cs : List D} {i : Nat} [hp : Put env dst d env'] (hk : AOps C Q ops rest k env' H df) (hg : gOk ops.toList env gd = some true := by rfl) (hx : evO C env x = some (.tup cs) := by rfl) (hi : cs[i]? = some d := by rfl) : AOps C Q ops (⟨dst, .extract x i, ty, pos, aft, gd⟩ :: rest) k env H df := y_op hg (Zeq hx hi) hk
theorem zzl {cs : List D} [hp : Put env dst d env'] (hk : AOps C Q ops rest k env' H df) (hg : gOk ops.toList env gd = some true := by rfl) (hx : evO C env x = some (.sptr cs) := by rfl) (ht : C.ty T = some te := by rfl) (ha : aggK te.k = false := by rfl) (hd : cs[0]? = some d := by rfl) : AOps C Q ops (⟨dst, .load T x, ty, pos, aft, gd⟩ :: rest) k env H df := y_op hg (q_load hx ht ha hd) hk
theorem zzL {cs ds : List D} [hp : Put env dst (.agg ds) env'] (hk : AOps C Q ops rest k env' H df) (hg : gOk ops.toList env gd = some true := by rfl) (hx : evO C env x = some (.sptr cs) := by rfl) (ht : C.ty T = some te := by rfl) (ha : aggK te.k = true := by rfl) (hd : cs.take te.size = ds := by rfl) (hl : ds.length = te.size := by rfl) : AOps C Q ops (⟨dst, .load T x, ty, pos, aft, gd⟩ :: rest) k env H df := y_op hg (ZaR hx ht ha hd hl) hk
theorem zzn {b : Bool} {xt : TypeId} [hp : Put env dst (.bool (!b)) env'] (hk : AOps C Q ops rest k env' H df) (hg : gOk ops.toList env gd = some true := by rfl) (hx : evO C env x = some (.bool b) := by rfl) : AOps C Q ops (⟨dst, .unOp .not xt x, ty, pos, aft, gd⟩ :: rest) k env H df := y_op hg (q_not hx) hk
theorem zzf {f o sz S b : Nat} {cs : List D} {zv : Value} {pl : List (Nat × Nat)} [hp : Put env dst (.sptr (cs.drop o)) env'] (hk : AOps C Q ops rest k env' H df) (hg : gOk ops.toList env gd = some true := by rfl) (hx : evO C env x = some (.sptr cs) := by rfl) (hs : C.ty T = some ⟨.struct pl, S, b, zv⟩ := by rfl) (hf : pl[f]? = some (o, sz) := by rfl) (h0 : sz ≠ 0 := by decide) : AOps C Q ops (⟨dst, .fieldAddr T x f, ty, pos, aft, gd⟩ :: rest) k env H df := y_op hg (q_fldS hx hs hf h0) hk
theorem zzN {n S b : Nat} {cs : List D} {zv : Value} [hp : Put env dst (.int .i64 n) env'] (hk : AOps C Q ops rest k env' H df) (hg : gOk ops.toList env gd = some true := by rfl) (hx : evO C env x = some (.sl n cs) := by rfl) (ht : C.ty T = some ⟨.slice e, S, b, zv⟩ := by rfl) : AOps C Q ops (⟨dst, .call ⟨.builtin .len, #[x], #[T]⟩, ty, pos, aft, gd⟩ :: rest) k env H df := y_op hg (ZgG hx ht) hk
theorem zzc {f : FuncId} {caps ds : List D} {args : List Operand} {tys : Array TypeId} (hx : evO C env x = some (.clos f caps)) (ha : evOs C env args = some ds) (hc : PC C f (ds ++ caps) (fun o => o = .ret d)) [hp : Put env dst d env'] (hk : AOps C Q ops rest k env' H df) (hg : gOk ops.toList env gd = some true := by rfl) : AOps C Q ops (⟨dst, .call ⟨.value x, args.toArray, tys⟩, ty, pos, aft, gd⟩ :: rest) k env H df := y_op hg (q_call hx ha hc) hk
theorem zzk {op : Op} [hp : Put env dst (.tup []) env'] (hk : AOps C Q ops rest k env' H df) (hg : gOk ops.toList env gd = some false := by rfl) : AOps C Q ops (⟨dst, op, ty, pos, aft, gd⟩ :: rest) k env H df := y_skip hg hk
end
section
variable {C : Ctx}
theorem PC.rn {f : FuncId} {fn : Func} {c : Code} {args : List D} {r : Out → Prop} {n : Nat} (hf : C.P.funcs[f]? = some fn) (hen : Enters C.P f) (hn : fn.ntmps = n) {rs : List ResultVar} (hrs : fn.results.toList = rs) {env0 : List D}
    (h : ARun C (QFin C rs (fun o _ => o.pure = true ∧ r o)) [.code c] env0 [] []) (hb : fn.body = some c := by rfl) (hp : D.pure.pures args = true := by rfl) (he : args ++ List.replicate (n - args.length) (.tup []) = env0 := by simp only [List.length_cons, List.length_nil, Nat.reduceAdd, Nat.reduceSub, List.replicate_succ, List.replicate_zero, List.cons_append, List.nil_append]; exact rfl) : PC C f args r := PC.run hf hen hb hn hp hrs he h
theorem ARun.ag {Q : Post} {k : List Item} {env env1 : List D} {H H1 : Heap} {df : List ADef} (h : ARun C Q k env1 H1 df) (hH : H = H1 := by rfl) (hle : envLe env env1 := by (repeat' first | exact envLe_nil | apply envLe_any | apply envLe_same)) : ARun C Q k env H df := ARun.again h hle hH
end
end Go.V
/- SLICES that are made with more room than length; rows that grow behind others. -/
namespace Go.V
open Go.RowKit
section
variable {C : Ctx} {env : List D} {H H' : Heap} {dst : Option Tmp} {ty : TypeId} {pos : String} {aft : Array Edge} {gd : Option (Nat × Bool)} {x y : Operand} {T e : TypeId} {descE : TypeDesc} {bytesE : Nat} {zeroE : Value}
end
end Go.V
/- APPEND, COPY: rows that grow. -/
namespace Go.V
open Go.RowKit
theorem SR.regrow {C : Ctx} {L0 : Nat → Prop} {w w' : World} {μ : List Nat} {H : Heap} (hs : SR C L0 w μ H) {id b b' : Nat} {o o' : AObj} {cur' : Array Value} (ho : H[id]? = some (some o)) (hb : μ[id]? = some b) (hl : o.live = true) (hg : w.grownBy w' (some b))
    (hb' : b' = b ∨ b' = w.heap.size) (hc : w'.heap[b']? = some (.cells cur' o'.elem (0, 0))) (hlen : o'.cells.length ≤ cur'.size) (hcs : ∀ (j : Nat) (d : D), o'.cells[j]? = some d → ∃ v : Value, cur'[j]? = some v ∧ v.oneCell' = true ∧ VR w (forb L0 μ H) μ H d v) (hsp : o'.sp = none := by rfl) :
    SR C L0 w' (μ ++ [b']) (H.set id none ++ [some o']) ∧ Evo w w' μ (μ ++ [b']) H (H.set id none ++ [some o']) := by
  have hid : id < H.length := (List.getElem?_eq_some_iff.1 ho).1
  have hbl : b < w.heap.size := hs.block_lt ho hb
  have hm : ∀ i k : Nat, μ[i]? = some k → (μ ++ [b'])[i]? = some k := fun i k h => by
    rw [List.getElem?_append_left (List.getElem?_eq_some_iff.1 h).1]; exact h
  have hcase : ∀ (i : Nat) (oi : AObj) (k : Nat), (H.set id none ++ [some o'])[i]? = some (some oi) → (μ ++ [b'])[i]? = some k → (i ≠ id ∧ H[i]? = some (some oi) ∧ μ[i]? = some k) ∨ (i = H.length ∧ oi = o' ∧ k = b') := by
    intro i oi k h1 h2
    by_cases hi : i < H.length
    · rw [List.getElem?_append_left (by simpa using hi)] at h1
      rw [List.getElem?_append_left (by rw [hs.len]; exact hi)] at h2
      rw [List.getElem?_set] at h1
      by_cases e : id = i
      · subst e; simp [hid] at h1
      simp only [e, if_false] at h1
      exact .inl ⟨fun h => e h.symm, h1, h2⟩
    have hi' : i = H.length := by
      have := (List.getElem?_eq_some_iff.1 h1).1
      simp at this
      omega
    subst hi'
    rw [List.getElem?_append_right (by simp)] at h1
    rw [List.getElem?_append_right (by rw [hs.len]; exact Nat.le_refl _)] at h2
    simp [hs.len] at h1 h2
    exact .inr ⟨rfl, h1.symm, h2.symm⟩
  have hne : ∀ (i : Nat) (oi : AObj) (k : Nat), i ≠ id → H[i]? = some (some oi) → μ[i]? = some k → k ≠ b := by
    intro i oi k h1 h2 h3 e
    subst e
    exact h1 (hs.inj id i o oi k ho h2 hb h3 hl).symm
  have hun : ∀ (i : Nat) (oi : AObj) (k : Nat), i ≠ id → H[i]? = some (some oi) → μ[i]? = some k → w'.heap[k]? = w.heap[k]? := by
    intro i oi k h1 h2 h3
    refine hg.block k (hs.block_lt h2 h3) fun e => ?_
    injection e with e
    exact hne i oi k h1 h2 h3 e
  have he : Evo w w' μ (μ ++ [b']) H (H.set id none ++ [some o']) := by
    refine ⟨hg.os, hg.tape, hg.output, hg.size, fun k hk hkl => ?_, fun k hk hkl => ?_, hm, fun i x hx => ?_⟩
    · refine hg.block k hk fun e => ?_
      injection e with e
      subst e
      exact hkl ⟨id, o, ho, hl, hb⟩
    · obtain ⟨i, oi, h1, h2, h3⟩ := hkl
      rcases hcase i oi k h1 h3 with ⟨_, k2, k3⟩ | ⟨_, rfl, rfl⟩
      · exact ⟨i, oi, k2, h2, k3⟩
      rcases hb' with rfl | rfl
      · exact ⟨id, o, ho, hl, hb⟩
      omega
    have hi : i < H.length := (List.getElem?_eq_some_iff.1 hx).1
    by_cases e : id = i
    · subst e
      exact ⟨none, by rw [List.getElem?_append_left (by simpa using hi)]; simp [hid], fun o'' h => by cases h⟩
    refine ⟨x, by rw [List.getElem?_append_left (by simpa using hi), List.getElem?_set_ne e]; exact hx, fun o'' h => ⟨o'', h, rfl, rfl, rfl, fun k cur hk hw => ⟨cur, ?_, rfl⟩⟩⟩
    subst h
    rw [hun i o'' k (fun h => e h.symm) hx hk]; exact hw
  refine ⟨hs.next he (by simp [hs.len]) (fun i oi k h1 h2 => ?_) (fun i j oi oj k h1 h2 h3 h4 hli => ?_) (fun i oi k h1 h2 hL => ?_), he⟩
  · rcases hcase i oi k h1 h2 with ⟨k1, k2, k3⟩ | ⟨_, rfl, rfl⟩
    · exact (hs.obj i oi k k2 k3).same (hun i oi k k1 k2 k3)
    exact .of_row hsp ⟨cur', hc, hlen, hcs⟩
  · rcases hcase i oi k h1 h3 with ⟨k1, k2, k3⟩ | ⟨e1, rfl, rfl⟩ <;> rcases hcase j oj _ h2 h4 with ⟨m1, m2, m3⟩ | ⟨f1, _, f3⟩
    · exact hs.inj i j oi oj k k2 m2 k3 m3 hli
    · subst f3
      rcases hb' with e | e
      · exact (hne i oi _ k1 k2 k3 e).elim
      have := hs.block_lt k2 k3; omega
    · rcases hb' with e | e
      · exact (hne j oj _ m1 m2 m3 e).elim
      have := hs.block_lt m2 m3; omega
    omega
  rcases hcase i oi k h1 h2 with ⟨_, k2, k3⟩ | ⟨_, rfl, rfl⟩
  · exact hs.own i oi k k2 k3 hL
  rcases hb' with rfl | rfl
  · exact hs.own id o _ ho hb hL
  have := hs.lim _ hL; omega
theorem SR.grow {C : Ctx} {L0 : Nat → Prop} {w w' : World} {μ : List Nat} {H : Heap} (hs : SR C L0 w μ H) {o' : AObj} {cur' : Array Value} (hg : w.grownBy w' none)
    (hc : w'.heap[w.heap.size]? = some (.cells cur' o'.elem (0, 0))) (hlen : o'.cells.length ≤ cur'.size) (hcs : ∀ (j : Nat) (d : D), o'.cells[j]? = some d → ∃ v : Value, cur'[j]? = some v ∧ v.oneCell' = true ∧ VR w (forb L0 μ H) μ H d v) (hsp : o'.sp = none := by rfl) :
    SR C L0 w' (μ ++ [w.heap.size]) (H ++ [some o']) ∧ Evo w w' μ (μ ++ [w.heap.size]) H (H ++ [some o']) := by
  have hm : ∀ i k : Nat, μ[i]? = some k → (μ ++ [w.heap.size])[i]? = some k := fun i k h => by
    rw [List.getElem?_append_left (List.getElem?_eq_some_iff.1 h).1]; exact h
  have hun : ∀ k, k < w.heap.size → w'.heap[k]? = w.heap[k]? := fun k hk => hg.block k hk (by simp)
  have hcase : ∀ (i : Nat) (oi : AObj) (k : Nat), (H ++ [some o'])[i]? = some (some oi) → (μ ++ [w.heap.size])[i]? = some k → (H[i]? = some (some oi) ∧ μ[i]? = some k) ∨ (i = H.length ∧ oi = o' ∧ k = w.heap.size) := by
    intro i oi k h1 h2
    by_cases hi : i < H.length
    · rw [List.getElem?_append_left hi] at h1
      rw [List.getElem?_append_left (by rw [hs.len]; exact hi)] at h2
      exact .inl ⟨h1, h2⟩
    have hi' : i = H.length := by
      have := (List.getElem?_eq_some_iff.1 h1).1
      simp at this
      omega
    subst hi'
    rw [List.getElem?_append_right (by simp)] at h1
    rw [List.getElem?_append_right (by rw [hs.len]; exact Nat.le_refl _)] at h2
    simp [hs.len] at h1 h2
    exact .inr ⟨rfl, h1.symm, h2.symm⟩
  have he : Evo w w' μ (μ ++ [w.heap.size]) H (H ++ [some o']) := by
    refine ⟨hg.os, hg.tape, hg.output, hg.size, fun k hk _ => hun k hk, fun k hk hkl => ?_, hm, fun i x hx => ?_⟩
    · obtain ⟨i, oi, h1, h2, h3⟩ := hkl
      rcases hcase i oi k h1 h3 with ⟨k2, k3⟩ | ⟨_, _, e⟩
      · exact ⟨i, oi, k2, h2, k3⟩
      omega
    have hi : i < H.length := (List.getElem?_eq_some_iff.1 hx).1
    exact ⟨x, by rw [List.getElem?_append_left hi]; exact hx, fun o'' h => ⟨o'', h, rfl, rfl, rfl, fun k cur hk hw => ⟨cur, by rw [hun k (Array.getElem?_eq_some_iff.1 hw).1]; exact hw, rfl⟩⟩⟩
  refine ⟨hs.next he (by simp [hs.len]) (fun i oi k h1 h2 => ?_) (fun i j oi oj k h1 h2 h3 h4 hli => ?_) (fun i oi k h1 h2 hL => ?_), he⟩
  · rcases hcase i oi k h1 h2 with ⟨k2, k3⟩ | ⟨_, rfl, rfl⟩
    · exact (hs.obj i oi k k2 k3).same (hun k (hs.block_lt k2 k3))
    exact .of_row hsp ⟨cur', hc, hlen, hcs⟩
  · rcases hcase i oi k h1 h3 with ⟨k2, k3⟩ | ⟨e1, _, e3⟩ <;> rcases hcase j oj k h2 h4 with ⟨m2, m3⟩ | ⟨f1, _, f3⟩
    · exact hs.inj i j oi oj k k2 m2 k3 m3 hli
    · have := hs.block_lt k2 k3; omega
    · have := hs.block_lt m2 m3; omega
    omega
  rcases hcase i oi k h1 h2 with ⟨k2, k3⟩ | ⟨_, _, rfl⟩
  · exact hs.own i oi k k2 k3 hL
  have := hs.lim _ hL; omega
def srcD (H : Heap) : D → Option (Nat × List D)
  | .sl n cs => some (n, cs)
  | .nilsl => some (0, [])
  | .row id n => match H[id]? with
    | some (some o) => some (n, o.cells)
    | _ => none
  | _ => none
theorem srcD_ok {C : Ctx} {L0 : Nat → Prop} {w : World} {μ : List Nat} {H : Heap} (hs : SR C L0 w μ H) {d : D} {m : Nat} {cs : List D} {v : Value} (h : srcD H d = some (m, cs)) (hv : VR w (forb L0 μ H) μ H d v) :
    ∃ a cap, v = .slice a m cap ∧ m ≤ cap ∧ (cs ≠ [] → ∃ ad, a = some ad ∧ ∃ vs : List Value, vs.length = cs.length ∧ VRs w (forb L0 μ H) μ H cs vs ∧ (∀ j u, vs[j]? = some u → w.cell? (ad.add j) = some u) ∧ ∀ u ∈ vs, u.oneCell' = true) := by
  have key : ∀ (cs : List D) (ad : Addr), (∀ j d, cs[j]? = some d → ∃ v, w.cell? (ad.add j) = some v ∧ v.oneCell' = true ∧ VR w (forb L0 μ H) μ H d v) → ∃ vs : List Value, vs.length = cs.length ∧ VRs w (forb L0 μ H) μ H cs vs ∧ (∀ j u, vs[j]? = some u → w.cell? (ad.add j) = some u) ∧ ∀ u ∈ vs, u.oneCell' = true := by
    intro cs
    induction cs with
    | nil => intro ad _; exact ⟨[], rfl, by simp [VRs], fun j u h => by simp at h, fun u h => by simp at h⟩
    | cons c cs ih =>
      intro ad h
      obtain ⟨v, h1, h2, h3⟩ := h 0 c rfl
      obtain ⟨vs, k1, k2, k3, k4⟩ := ih (ad.add 1) fun j d hd => by
        obtain ⟨v, m1, m2⟩ := h (j + 1) d (by simpa using hd)
        exact ⟨v, by rw [add_add, show 1 + j = j + 1 by omega]; exact m1, m2⟩
      refine ⟨v :: vs, by simp [k1], by simp only [VRs]; exact ⟨v, vs, rfl, h3, k2⟩, fun j u hu => ?_, fun u hu => ?_⟩
      · cases j with
        | zero => simp at hu; subst hu; exact h1
        | succ j => rw [show j + 1 = 1 + j by omega, ← add_add]; exact k3 j u (by simpa using hu)
      rcases List.mem_cons.1 hu with rfl | hu
      · exact h2
      exact k4 u hu
  cases d <;> simp only [srcD] at h <;> first | (cases h; done) | skip
  case sl n ds =>
    injection h with h; injection h with h1 h2; subst h1; subst h2
    simp only [VR] at hv
    obtain ⟨a, cap, rfl, k1, k2, k3⟩ := hv
    refine ⟨a, cap, rfl, k1, fun hne => ?_⟩
    obtain ⟨ad, rfl, _, _, m3⟩ := k3 hne
    exact ⟨ad, rfl, key ds ad fun j d hd => by
      obtain ⟨v, q1, q2, q3⟩ := VRL_get m3 hd
      exact ⟨v, by rw [Nat.zero_add] at q1; exact q1, q2, VR.lift q3⟩⟩
  case nilsl =>
    injection h with h; injection h with h1 h2; subst h1; subst h2
    simp only [VR] at hv
    exact ⟨none, 0, hv, Nat.le_refl _, fun h => (h rfl).elim⟩
  case row id n =>
    split at h
    · rename_i o ho
      injection h with h; injection h with h1 h2; subst h1; subst h2
      simp only [VR] at hv
      obtain ⟨x, hx, k2⟩ := hv
      rw [ho] at hx
      injection hx with hx
      obtain ⟨b, cap, cur, m1, rfl, m3, m4, m5, m6, m7⟩ := k2 o hx.symm
      refine ⟨some ⟨b, 0, none⟩, cap, rfl, m3, fun _ => ⟨⟨b, 0, none⟩, rfl, key o.cells _ fun j d hd => ?_⟩⟩
      obtain ⟨v, q1, q2, q3⟩ := hs.cell ho m1 hd
      exact ⟨v, by rw [add_lit]; exact q1, q2, q3⟩
    cases h
theorem run_append_zero {P : Program} {w : World} {t ty e : TypeId} {i : TypeInfo} (ht : P.underlying t = some (.slice e)) (hi : P.info? e = some i) {base : Option Addr} {n cap c : Nat} {a : Option Addr} (hn : n ≤ cap) : (Builtin.append_ #[t, t] ty #[.slice base n cap, .slice a 0 c]).run P w = .ok (.slice base n cap) w := by
  cases base <;> cases a <;> simp [Builtin.append_, run_underlying ht, sizeOf, typeInfo, hi, Builtin.lenOf, Builtin.firstCells, loadCells, loadCellsFrom, storeCells, hn]
end Go.V
/- APPEND: the rules. -/
namespace Go.V
open Go.RowKit
theorem constD_cells {z : Value} {dz : D} {zs : List D} (h : constD z = some dz) (hc : cellsD dz = some zs) : z.cells.size = zs.length := by
  unfold constD at h
  split at h
  · rename_i cs
    split at h
    · rename_i ds hs
      injection h with h; subst h
      simp only [cellsD] at hc
      injection hc with hc; subst hc
      have : VRs (default : World) (fun _ => False) [] [] ds cs.toList := scalarsD_ok hs
      have := VRs_length this
      simp [Value.cells] at this ⊢
      omega
    cases h
  · split at h
    · injection h with h; subst h; simp [cellsD] at hc
    cases h
  have h1 : ∀ v : Value, scalarD v = some dz → v.cells.size = 1 ∧ ∃ d, cellsD dz = some [d] := by
    intro v hv
    unfold scalarD at hv
    split at hv <;> first | (injection hv with hv; subst hv; exact ⟨rfl, _, rfl⟩) | (cases hv)
  obtain ⟨k1, d, k2⟩ := h1 _ h
  rw [k2] at hc
  injection hc with hc
  subst hc
  exact k1
section
variable {C : Ctx} {env : List D} {H : Heap} {dst : Option Tmp} {ty : TypeId} {pos : String} {aft : Array Edge} {gd : Option (Nat × Bool)} {x y : Operand} {T e : TypeId} {descE : TypeDesc} {sizeE bytesE : Nat} {zeroE : Value}
theorem grownBy_refl (w : World) (r : Option Nat) : w.grownBy w r := ⟨rfl, rfl, rfl, Nat.le_refl _, fun _ _ _ => rfl⟩
theorem Zgk {id n m : Nat} {o : AObj} {dy dz : D} {zs news : List D} (ht : UN C T (.slice e)) (te : TIC C e descE sizeE bytesE zeroE) (h0 : 0 < sizeE) (hz : constD zeroE = some dz) (hzs : cellsD dz = some zs) (hzl : zs.length = sizeE)
    (hx : evO C env x = some (.row id n)) (ho : H[id]? = some (some o)) (hl : o.live = true) (hel : o.elem = e) (hes : o.esz = sizeE) (hy : evO C env y = some dy) (hs : srcD H dy = some (m, news)) (hnl : news.length = m * sizeE) (hb : (n + m) * bytesE ≤ 140737488355328) (hm : n + m ≤ maxLen) :
    OpN C ⟨dst, .call ⟨.builtin .append, #[x, y], #[T, T]⟩, ty, pos, aft, gd⟩ env H (.row H.length (n + m)) (H.set id none ++ [some ⟨o.cells ++ news, e, sizeE, true, none⟩]) := by
  refine ⟨fun L0 w μ a hsr hv => ?_⟩
  have ex := evO_ok hsr hv hx
  have ey := evO_ok hsr hv hy
  obtain ⟨ay, capy, ey', hmc, hnews⟩ := srcD_ok hsr hs ey
  simp only [VR] at ex
  obtain ⟨xo, hxo, h2⟩ := ex
  rw [ho] at hxo
  injection hxo with hxo
  obtain ⟨b, cap, cur, k1, ex, k3, k4, k5, k6, k7⟩ := h2 o hxo.symm
  rw [hel] at k5
  rw [hes] at k6 k7
  obtain ⟨i, i1, i2, i3, i4⟩ := te.infos
  obtain ⟨curO, co1, co2, co3⟩ := (hsr.obj id o b ho k1).row ((hsr.obj id o b ho k1).sp_none k5)
  rw [hel, k5] at co1
  injection co1 with co1
  injection co1 with co1
  subst co1
  have hrunop : ∀ (v' : Value) (w' : World), (Builtin.append_ #[T, T] ty #[a.eval x, a.eval y]).run C.P w = .ok v' w' → (execOp a.eval ⟨dst, .call ⟨.builtin .append, #[x, y], #[T, T]⟩, ty, pos, aft, gd⟩).run C.P w = .ok (.value v') w' := by
    intro v' w' h
    simp [execOp, resolve, invoke, builtin, h]
  have done : ∀ (w' : World) (b' cap' : Nat) (cur' : Array Value), (Builtin.append_ #[T, T] ty #[a.eval x, a.eval y]).run C.P w = .ok (.slice (some ⟨b', 0, none⟩) (n + m) cap') w' → w.grownBy w' (some b) → (b' = b ∨ b' = w.heap.size) → w'.heap[b']? = some (.cells cur' e (0, 0)) → n + m ≤ cap' → cap' ≤ maxLen → cur'.size = cap' * sizeE →
      (∀ (j : Nat) (d : D), (o.cells ++ news)[j]? = some d → ∃ v : Value, cur'[j]? = some v ∧ v.oneCell' = true ∧ VR w (forb L0 μ H) μ H d v) →
      Oper.wp C.P ⟨dst, .call ⟨.builtin .append, #[x, y], #[T, T]⟩, ty, pos, aft, gd⟩ a w (fun a' w' => ∃ v d H' μ', (d = .row H.length (n + m) ∧ H' = H.set id none ++ [some ⟨o.cells ++ news, e, sizeE, true, none⟩]) ∧ a' = a.put dst v ∧ SR C L0 w' μ' H' ∧ VR w' (forb L0 μ' H') μ' H' d v ∧ Evo w w' μ μ' H H')
        (fun e' a' w' => ∃ v d H' μ', e' = .panic (pan1 v) ∧ a' = a ∧ False ∧ SR C L0 w' μ' H' ∧ VR w' (forb L0 μ' H') μ' H' d v ∧ Evo w w' μ μ' H H') := by
    intro w' b' cap' cur' hrun hg hb' hc q1 q2 q3 hcs
    unfold Oper.wp
    rw [hrunop _ _ hrun]
    have hlen : (o.cells ++ news).length ≤ cur'.size := by
      rw [List.length_append, k7, hnl, ← Nat.add_mul, q3]; exact Nat.mul_le_mul_right _ q1
    obtain ⟨s1, s2⟩ := hsr.regrow (o' := ⟨o.cells ++ news, e, sizeE, true, none⟩) ho k1 hl hg hb' hc hlen hcs
    refine ⟨_, _, _, _, ⟨rfl, rfl⟩, rfl, s1, ?_, s2⟩
    simp only [VR]
    refine ⟨some ⟨o.cells ++ news, e, sizeE, true, none⟩, by rw [List.getElem?_append_right (by simp)]; simp, fun o' e' => ?_⟩
    injection e' with e'
    subst e'
    refine ⟨b', cap', cur', by rw [← hsr.len]; simp, rfl, q1, q2, hc, q3, by rw [List.length_append, k7, hnl, Nat.add_mul]⟩
  by_cases hm0 : m = 0
  · subst hm0
    have hnil : news = [] := List.eq_nil_of_length_eq_zero (by simpa using hnl)
    subst hnil
    refine done w b cap cur ?_ (grownBy_refl _ _) (.inl rfl) k5 (by omega) k4 k6 ?_
    · rw [ex, ey']
      exact run_append_zero ht i1 k3
    intro j d hd
    rw [List.append_nil] at hd
    exact co3 j d hd
  have hne : news ≠ [] := by
    rintro rfl
    simp only [List.length_nil] at hnl
    rcases Nat.mul_eq_zero.1 hnl.symm with h | h <;> omega
  obtain ⟨ad, rfl, vs, v1, v2, v3, v4⟩ := hnews hne
  have htk : (cur.toList.take (n * sizeE)).length = n * sizeE := by
    rw [List.length_take, Array.length_toList, k6]
    exact Nat.min_eq_left (Nat.mul_le_mul_right _ k3)
  have hown : w.ownsRow 0 e sizeE (.slice (some ⟨b, 0, none⟩) n cap) n (cur.toList.take (n * sizeE)) := ⟨htk, .inr ⟨b, cap, cur, rfl, Nat.zero_le _, k5, k3, k4, k6, rfl⟩⟩
  obtain ⟨v', w', hrun, r1, r2, r3, r4⟩ := run_append_own_at (P := C.P) w 0 T ty e i zeroE sizeE bytesE ht i1 i4 i2 i3 ((constD_cells hz hzs).trans hzl) h0 _ n _ hown ad m capy vs (by rw [v1, hnl]) v3 v4 hm hb (Nat.zero_le _)
  rcases r1.2 with ⟨_, hz0⟩ | ⟨g, cap', cur', rfl, _, g2, g3, g4, g5, g6⟩
  · omega
  refine done w' g cap' cur' (by rw [ex, ey']; exact hrun) r2 (by
    rcases r4 with h | h
    · left; simpa [Value.ownBlock] using h
    right; simpa [Value.ownBlock] using h) g2 g3 g4 g5 fun j d hd => ?_
  have hj : j < (n + m) * sizeE := by
    have := (List.getElem?_eq_some_iff.1 hd).1
    rw [List.length_append, k7, hnl, ← Nat.add_mul] at this
    exact this
  have hget : cur'[j]? = (cur.toList.take (n * sizeE) ++ vs)[j]? := by
    rw [← g6, List.getElem?_take, if_pos hj, Array.getElem?_toList]
  by_cases hj2 : j < n * sizeE
  · rw [List.getElem?_append_left (by rw [k7]; exact hj2)] at hd
    rw [hget, List.getElem?_append_left (by rw [htk]; exact hj2), List.getElem?_take, if_pos hj2, Array.getElem?_toList]
    exact co3 j d hd
  rw [List.getElem?_append_right (by rw [k7]; omega), k7] at hd
  rw [hget, List.getElem?_append_right (by rw [htk]; omega), htk]
  obtain ⟨u, u1, u2⟩ := VRs_get v2 hd
  exact ⟨u, u1, v4 u (List.mem_of_getElem? u1), u2⟩
theorem Zfp {m : Nat} {dy dz : D} {zs news : List D} (ht : UN C T (.slice e)) (te : TIC C e descE sizeE bytesE zeroE) (h0 : 0 < sizeE) (hz : constD zeroE = some dz) (hzs : cellsD dz = some zs) (hzl : zs.length = sizeE)
    (hx : evO C env x = some .nilsl) (hy : evO C env y = some dy) (hs : srcD H dy = some (m, news)) (hnl : news.length = m * sizeE) (hm0 : 0 < m) (hb : m * bytesE ≤ 140737488355328) (hm : m ≤ maxLen) :
    OpN C ⟨dst, .call ⟨.builtin .append, #[x, y], #[T, T]⟩, ty, pos, aft, gd⟩ env H (.row H.length m) (H ++ [some ⟨news, e, sizeE, true, none⟩]) := by
  refine ⟨fun L0 w μ a hsr hv => ?_⟩
  have ex := evO_ok hsr hv hx
  have ey := evO_ok hsr hv hy
  obtain ⟨ay, capy, ey', hmc, hnews⟩ := srcD_ok hsr hs ey
  simp only [VR] at ex
  obtain ⟨i, i1, i2, i3, i4⟩ := te.infos
  have hne : news ≠ [] := by
    rintro rfl
    simp only [List.length_nil] at hnl
    rcases Nat.mul_eq_zero.1 hnl.symm with h | h <;> omega
  obtain ⟨ad, rfl, vs, v1, v2, v3, v4⟩ := hnews hne
  obtain ⟨v', w', hrun, r1, r2, r3, r4⟩ := run_append_own_at (P := C.P) w w.heap.size T ty e i zeroE sizeE bytesE ht i1 i4 i2 i3 ((constD_cells hz hzs).trans hzl) h0 _ 0 [] (World.ownsRow_nil w _ e sizeE) ad m capy vs (by rw [v1, hnl]) v3 v4 (by omega) (by rw [Nat.zero_add]; exact hb) (Nat.le_refl _)
  simp only [Nat.zero_add, List.nil_append] at r1
  rcases r1.2 with ⟨_, hz0⟩ | ⟨g, cap', cur', rfl, hgg, g2, g3, g4, g5, g6⟩
  · omega
  have hgs : g = w.heap.size := by
    rcases r4 with h | h
    · simp [Value.ownBlock] at h
    simpa [Value.ownBlock] using h
  subst hgs
  have hrunop : (execOp a.eval ⟨dst, .call ⟨.builtin .append, #[x, y], #[T, T]⟩, ty, pos, aft, gd⟩).run C.P w = .ok (.value (.slice (some ⟨w.heap.size, 0, none⟩) m cap')) w' := by
    have hrun' := hrun
    simp [execOp, resolve, invoke, builtin, ex, ey', hrun']
  unfold Oper.wp
  rw [hrunop]
  obtain ⟨s1, s2⟩ := hsr.grow (o' := ⟨news, e, sizeE, true, none⟩) (by simpa [Value.ownBlock] using r2) g2 (by show news.length ≤ _; rw [hnl, g5]; exact Nat.mul_le_mul_right _ g3) fun j d hd => by
    have hj : j < m * sizeE := by rw [← hnl]; exact (List.getElem?_eq_some_iff.1 hd).1
    have hget : cur'[j]? = vs[j]? := by rw [← g6, List.getElem?_take, if_pos hj, Array.getElem?_toList]
    obtain ⟨u, u1, u2⟩ := VRs_get v2 hd
    exact ⟨u, by rw [hget]; exact u1, v4 u (List.mem_of_getElem? u1), u2⟩
  refine ⟨_, _, _, _, ⟨rfl, rfl⟩, rfl, s1, ?_, s2⟩
  simp only [VR]
  refine ⟨some ⟨news, e, sizeE, true, none⟩, by rw [List.getElem?_append_right (Nat.le_refl _)]; simp, fun o' e' => ?_⟩
  injection e' with e'
  subst e'
  exact ⟨w.heap.size, cap', cur', by rw [← hsr.len]; simp, rfl, g3, g4, g2, g5, hnl⟩
variable {te tee : TE} {H' : Heap}
theorem Zeo {id n m i S b : Nat} {zv : Value} {o : AObj} {dy dz : D} {zs news cs : List D} {H1 : Heap} [pl : PutL H id none H1] [ap : AppL H1 (some ⟨cs, e, tee.size, true, none⟩) i H'] (ht : C.ty T = some ⟨.slice e, S, b, zv⟩) (hee : C.ty e = some tee) (h0 : 0 < tee.size) (hz : constD tee.zero = some dz) (hzs : cellsD dz = some zs) (hzl : zs.length = tee.size)
    (hx : evO C env x = some (.row id n)) (ho : H[id]? = some (some o)) (hl : o.live = true) (hel : o.elem = e) (hes : o.esz = tee.size) (hy : evO C env y = some dy) (hs : srcD H dy = some (m, news)) (hnl : news.length = m * tee.size) (hb : (n + m) * tee.bytes ≤ 140737488355328) (hm : n + m ≤ maxLen) (hcs : o.cells ++ news = cs) :
    OpN C ⟨dst, .call ⟨.builtin .append, #[x, y], #[T, T]⟩, ty, pos, aft, gd⟩ env H (.row i (n + m)) H' := by
  subst hcs
  have h := Zgk (dst := dst) (ty := ty) (pos := pos) (aft := aft) (gd := gd) (ty_slice ht) (ty_tic hee).1 h0 hz hzs hzl hx ho hl hel hes hy hs hnl hb hm
  have hlen := ap.len
  have heq := ap.eq
  rw [← pl.eq] at hlen heq
  rw [List.length_set] at hlen
  unfold OpN
  rw [← hlen, ← heq]
  exact h
theorem Zc2 {m i S b : Nat} {zv : Value} {dy dz : D} {zs news : List D} (ht : C.ty T = some ⟨.slice e, S, b, zv⟩) (hee : C.ty e = some tee) (h0 : 0 < tee.size) (hz : constD tee.zero = some dz) (hzs : cellsD dz = some zs) (hzl : zs.length = tee.size)
    (hx : evO C env x = some .nilsl) (hy : evO C env y = some dy) (hs : srcD H dy = some (m, news)) (hnl : news.length = m * tee.size) (hm0 : 0 < m) (hb : m * tee.bytes ≤ 140737488355328) (hm : m ≤ maxLen) [ap : AppL H (some ⟨news, e, tee.size, true, none⟩) i H'] :
    OpN C ⟨dst, .call ⟨.builtin .append, #[x, y], #[T, T]⟩, ty, pos, aft, gd⟩ env H (.row i m) H' := by
  have h := Zfp (dst := dst) (ty := ty) (pos := pos) (aft := aft) (gd := gd) (ty_slice ht) (ty_tic hee).1 h0 hz hzs hzl hx hy hs hnl hm0 hb hm
  unfold OpN
  rw [← ap.len, ← ap.eq]
  exact h
end
end Go.V
