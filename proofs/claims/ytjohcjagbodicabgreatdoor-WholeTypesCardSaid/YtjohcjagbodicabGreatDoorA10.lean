/- A part of the proof: abstract values, rules for the steps of the program's form, and contracts of its functions, each proved; no condition. -/
import Derived.Test.YtjohcjagbodicabGreatDoorA09
set_option linter.unusedVariables false
set_option linter.unusedSimpArgs false
/- STATEMENTS THAT DRAW THEIR ORDER and write or make memory: the rule. -/
namespace Go.V
open Go.RowKit
abbrev AlcX := Tmp × TypeId × List D × Option (Nat × List D)
def alcS (S : Nat → Bool) : AlcX → Alc
  | (t, T, ds, none) => (t, T, ds)
  | (t, T, ds, some (i, ds')) => (t, T, bif S i then ds' else ds)
def lookA : List (Nat × AlcX) → Nat → Option AlcX
  | [], _ => none
  | (j, x) :: l, i => bif Nat.beq i j then some x else lookA l i
def stI (x : AlcX) : Option Nat := x.2.2.2.map (·.1)
def nosA (i : Nat) : List (Nat × AlcX) → Bool
  | [] => true
  | (_, _, _, _, none) :: l => nosA i l
  | (_, _, _, _, some (k, _)) :: l => !(Nat.beq k i) && nosA i l
def finA (S : Nat → Bool) (l : List (Nat × AlcX)) : List (Nat × Alc) := l.map fun p => (p.1, alcS S p.2)
def okA (l : List Oper) (m : Nat) : List (Nat × Option Nat) → Bool
  | [] => true
  | (j, o) :: r => Nat.blt j m && (match o with
    | some k => Nat.blt k m && hasE l k j
    | none => true) && (r.all fun p => !(Nat.beq p.1 j)) && okA l m r
def objA (p : Nat × Alc) : Option AObj := some ⟨p.2.2.2, p.2.2.1, 1, true, none⟩
def adoptE (env : List D) (n : Nat) : List (Nat × Alc) → List D
  | [] => env
  | p :: l => adoptE (env.set p.2.1 (.ptr n 0)) (n + 1) l
def fixE (env : List D) : List (Nat × Alc) → List D
  | [] => env
  | p :: l => fixE (env.set p.2.1 (.sptr p.2.2.2)) l
class FixE (env : List D) (asZ : List (Nat × Alc)) (env' : outParam (List D)) : Prop where
  eq : fixE env asZ = env'
instance FixE.nil {env : List D} : FixE env [] env := ⟨rfl⟩
instance FixE.cons {env e1 e2 : List D} {j : Nat} {t : Tmp} {T : TypeId} {ds : List D} {l : List (Nat × Alc)} [h1 : Put env (some t) (.sptr ds) e1] [h2 : FixE e1 l e2] : FixE env ((j, t, T, ds) :: l) e2 :=
  ⟨by have := h1.eq; simp only [envPut] at this; simp only [fixE]; rw [this]; exact h2.eq⟩
class AdoptE (env : List D) (n : Nat) (asZ : List (Nat × Alc)) (env' : outParam (List D)) : Prop where
  eq : adoptE env n asZ = env'
instance AdoptE.nil {env : List D} {n : Nat} : AdoptE env n [] env := ⟨rfl⟩
instance AdoptE.cons {env e1 e2 : List D} {n : Nat} {j : Nat} {t : Tmp} {T : TypeId} {ds : List D} {l : List (Nat × Alc)} [h1 : Put env (some t) (.ptr n 0) e1] [h2 : AdoptE e1 (n + 1) l e2] : AdoptE env n ((j, t, T, ds) :: l) e2 :=
  ⟨by have := h1.eq; simp only [envPut] at this; simp only [adoptE]; rw [this]; exact h2.eq⟩
section
variable {C : Ctx} {Q : Post} {ops : Array Oper} {k : List Item} {df : List ADef}
theorem AS.fix {env : List D} {H : Heap} {al : Nat → Option Alc} {pe : Nat → Bool} {j : Nat} {t : Tmp} {T : TypeId} {cs : List D} {order : List Nat} (hj : pe j = true) (hal : al j = some (t, T, cs)) (hpu : D.pure.pures cs = true) (hk : AS C Q ops k (env.set t (.sptr cs)) H df al (fun i => bif Nat.beq i j then false else pe i) order) :
    AS C Q ops k env H df al pe order := by
  refine ⟨fun L0 w0 μ0 H0 w μ a β hβ hf hpd hs hv hdf he b cs2 hrd => ?_⟩
  obtain ⟨p1, cur, p2, p3, p4⟩ := hpd j t T cs hj hal
  let pe' : Nat → Bool := fun i => bif Nat.beq i j then false else pe i
  have hpe : ∀ i, pe' i = true → i ≠ j ∧ pe i = true := fun i hi => by
    by_cases e : i = j
    · subst e; simp only [pe', Nat.beq_refl, cond_true] at hi; cases hi
    have : Nat.beq i j = false := by
      cases hb : Nat.beq i j with
      | false => rfl
      | true => exact (e (Nat.eq_of_beq_eq_true hb)).elim
    simp only [pe', this, cond_false] at hi
    exact ⟨e, hi⟩
  have hLP : ∀ b', LP L0 β pe' b' → LP L0 β pe b' := by
    rintro b' (h | ⟨i, hi, rfl⟩)
    · exact .inl h
    exact .inr ⟨i, (hpe i hi).2, rfl⟩
  have st : Step w w (forb (LP L0 β pe) μ H) (forb (LP L0 β pe') μ H) μ μ H H := Step.sub (forb_sub hLP)
  have hno : ¬ forb (LP L0 β pe') μ H (β j) := by
    rintro (h | ⟨i, o, q1, _, q3⟩)
    · rcases h with h | ⟨i, hi, e⟩
      · exact (hf j hj).1 h
      exact (hpe i hi).1 (hβ i j (hpe i hi).2 hj e)
    exact (hf j hj).2.2 i o q1 q3
  have hvp : VR w (forb (LP L0 β pe') μ H) μ H (.sptr cs) (.pointer (some ⟨β j, 0, none⟩)) := by
    simp only [VR]
    refine ⟨⟨β j, 0, none⟩, rfl, hs.lim _ (.inr ⟨j, hj, rfl⟩), hno, VRL_mk fun i d hd => ?_⟩
    obtain ⟨v, m1, m2, m3⟩ := p4 i d hd
    exact ⟨v, by rw [Nat.zero_add, add_lit, cell_row p2]; exact m1, m2, VR.step st.pure (VR.drop (pures_at hpu hd) m3)⟩
  have hv' : VRs w (forb (LP L0 β pe') μ H) μ H (env.set t (.sptr cs)) a.tmps.toList := by
    refine VRs_mk (by rw [VRs_length hv]; simp) fun i d v h1 h2 => ?_
    by_cases e : t = i
    · subst e
      rw [p1] at h2
      injection h2 with h2
      subst h2
      rw [List.getElem?_set] at h1
      simp only [if_true] at h1
      split at h1
      · injection h1 with h1; subst h1; exact hvp
      cases h1
    rw [List.getElem?_set_ne e] at h1
    obtain ⟨v', k1, k2⟩ := VRs_get hv h1
    rw [h2] at k1
    injection k1 with k1
    subst k1
    exact VR.step st k2
  exact hk.out L0 w0 μ0 H0 w μ a β (fun i1 i2 q1 q2 q3 => hβ i1 i2 (hpe i1 q1).2 (hpe i2 q2).2 q3) (fun i hi => hf i (hpe i hi).2)
    (fun i t' T' cs' hi hali => by
      obtain ⟨r1, cur', r2, r3, r4⟩ := hpd i t' T' cs' (hpe i hi).2 hali
      exact ⟨r1, cur', r2, r3, fun i2 d2 hd2 => by
        obtain ⟨v, m1, m2, m3⟩ := r4 i2 d2 hd2
        exact ⟨v, m1, m2, VR.step st m3⟩⟩)
    (hs.shrink hLP) hv' (DfR.step st hdf) he b cs2 hrd
theorem AS.adoptAll {al : Nat → Option Alc} {order : List Nat} : ∀ (lst : List (Nat × Alc)) (env : List D) (H : Heap) (pe : Nat → Bool), (lst.map (·.1)).Nodup → (∀ p ∈ lst, al p.1 = some p.2 ∧ pe p.1 = true) → (∀ j, pe j = true → j ∈ lst.map (·.1)) →
    ARun C Q (.inRegion ops order :: k) (adoptE env H.length lst) (H ++ lst.map objA) df → AS C Q ops k env H df al pe order
  | [], env, H, pe, _, _, hpe, hk => AS.run (fun j => by
      cases h : pe j with
      | false => rfl
      | true => have := hpe j h; simp at this) (by simpa [adoptE] using hk)
  | (j, t, T, cs) :: lst, env, H, pe, hnd, hal, hpe, hk => by
    obtain ⟨h1, h2⟩ := hal (j, t, T, cs) (by simp)
    simp only [List.map_cons, List.nodup_cons] at hnd
    refine AS.adopt h2 h1 (AS.adoptAll lst _ _ _ hnd.2 (fun p hp => ?_) (fun i hi => ?_) ?_)
    · obtain ⟨a1, a2⟩ := hal p (List.mem_cons_of_mem _ hp)
      have hne : p.1 ≠ j := fun e => hnd.1 (by rw [← e]; exact List.mem_map_of_mem hp)
      refine ⟨a1, ?_⟩
      have : Nat.beq p.1 j = false := by
        cases hb : Nat.beq p.1 j with
        | false => rfl
        | true => exact (hne (Nat.eq_of_beq_eq_true hb)).elim
      simp only [this, cond_false]; exact a2
    · by_cases e : i = j
      · subst e; simp only [Nat.beq_refl, cond_true] at hi; cases hi
      have : Nat.beq i j = false := by
        cases hb : Nat.beq i j with
        | false => rfl
        | true => exact (e (Nat.eq_of_beq_eq_true hb)).elim
      simp only [this, cond_false] at hi
      have := hpe i hi
      simp only [List.map_cons, List.mem_cons] at this
      exact this.resolve_left e
    simp only [adoptE, List.map_cons, objA] at hk
    rw [List.length_append, List.append_assoc]
    exact hk
theorem AS.fixAll {al : Nat → Option Alc} {order : List Nat} {H : Heap} : ∀ (lst : List (Nat × Alc)) (env : List D) (pe : Nat → Bool), (lst.map (·.1)).Nodup → (∀ p ∈ lst, D.pure.pures p.2.2.2 = true) → (∀ p ∈ lst, al p.1 = some p.2 ∧ pe p.1 = true) → (∀ j, pe j = true → j ∈ lst.map (·.1)) →
    ARun C Q (.inRegion ops order :: k) (fixE env lst) H df → AS C Q ops k env H df al pe order
  | [], env, pe, _, _, _, hpe, hk => AS.run (fun j => by
      cases h : pe j with
      | false => rfl
      | true => have := hpe j h; simp at this) (by simpa [fixE] using hk)
  | (j, t, T, cs) :: lst, env, pe, hnd, hpu, hal, hpe, hk => by
    obtain ⟨h1, h2⟩ := hal (j, t, T, cs) (by simp)
    simp only [List.map_cons, List.nodup_cons] at hnd
    refine AS.fix h2 h1 (hpu (j, t, T, cs) (by simp)) (AS.fixAll lst _ _ hnd.2 (fun p hp => hpu p (List.mem_cons_of_mem _ hp)) (fun p hp => ?_) (fun i hi => ?_) ?_)
    · obtain ⟨a1, a2⟩ := hal p (List.mem_cons_of_mem _ hp)
      have hne : p.1 ≠ j := fun e => hnd.1 (by rw [← e]; exact List.mem_map_of_mem hp)
      refine ⟨a1, ?_⟩
      have : Nat.beq p.1 j = false := by
        cases hb : Nat.beq p.1 j with
        | false => rfl
        | true => exact (hne (Nat.eq_of_beq_eq_true hb)).elim
      simp only [this, cond_false]; exact a2
    · by_cases e : i = j
      · subst e; simp only [Nat.beq_refl, cond_true] at hi; cases hi
      have : Nat.beq i j = false := by
        cases hb : Nat.beq i j with
        | false => rfl
        | true => exact (e (Nat.eq_of_beq_eq_true hb)).elim
      simp only [this, cond_false] at hi
      have := hpe i hi
      simp only [List.map_cons, List.mem_cons] at this
      exact this.resolve_left e
    exact hk
inductive DChG (C : Ctx) (ops : Array Oper) (HS : (Nat → Bool) → Heap) (asF : List (Nat × AlcX)) (KP : D → Prop) (P : List D → Prop → Prop) : Nat → List Oper → List D → Prop → Prop
  | nil {i : Nat} {env : List D} {G : Prop} : P env G → DChG C ops HS asF KP P i [] env G
  | g {i : Nat} {o : Oper} {rest : List Oper} {env env' : List D} {d : D} {g G : Prop} : gOk ops.toList (maskF (o.looksAt ops) 0 env) o.guard = some true →
      (∀ S : Nat → Bool, S i = false → (∀ j, hasE ops.toList i j = true → S j = true) → (∀ j, S j = true → ∀ i', hasE ops.toList j i' = true → S i' = true) → OpH C o (maskF (o.looksAt ops) 0 env) (HS S) (fun d' H' => g ∧ d' = d ∧ H' = HS (upd S i)) (fun d' H' => KP d' ∧ H' = HS S)) → lookA asF i = none → nosA i asF = true → [Put env o.dst d env'] → DChG C ops HS asF KP P (i + 1) rest env' (G ∧ g) → DChG C ops HS asF KP P i (o :: rest) env G
  | skip {i : Nat} {o : Oper} {rest : List Oper} {env env' : List D} {G : Prop} : gOk ops.toList (maskF (o.looksAt ops) 0 env) o.guard = some false → (∀ S, HS (upd S i) = HS S) → lookA asF i = none → nosA i asF = true → [Put env o.dst (.tup []) env'] → DChG C ops HS asF KP P (i + 1) rest env' G → DChG C ops HS asF KP P i (o :: rest) env G
  | al {i : Nat} {t : Tmp} {T : TypeId} {te : TE} {dz : D} {ds : List D} {op : Option (Nat × List D)} {ty : TypeId} {pos : String} {aft : Array Edge} {rest : List Oper} {env env' : List D} {G : Prop} : C.ty T = some te → constD te.zero = some dz → cellsD dz = some ds → ds.all (okCell []) = true → (∀ S, HS (upd S i) = HS S) → Nat.blt t env.length = true → lookA asF i = some (t, T, ds, op) → nosA i asF = true → [Put env (some t) .any env'] →
      DChG C ops HS asF KP P (i + 1) rest env' G → DChG C ops HS asF KP P i (⟨some t, .alloc T, ty, pos, aft, none⟩ :: rest) env G
  | sp {i j : Nat} {t : Tmp} {T : TypeId} {te : TE} {ds ds' : List D} {d : D} {y : Operand} {ty : TypeId} {pos : String} {aft : Array Edge} {rest : List Oper} {env : List D} {G : Prop} : C.ty T = some te → evO C (maskF ((⟨none, .store T (.tmp t) y, ty, pos, aft, none⟩ : Oper).looksAt ops) 0 env) y = some d → cellsD d = some ds' → ds'.length = te.size → Nat.ble te.size ds.length = true → ds'.all (okCell []) = true → D.pure.pures ds' = true → (∀ S, HS (upd S i) = HS S) → lookA asF i = none → lookA asF j = some (t, T, ds, some (i, ds')) → nosA i (asF.filter fun p => !(Nat.beq p.1 j)) = true → hasE ops.toList i j = true →
      DChG C ops HS asF KP P (i + 1) rest env G → DChG C ops HS asF KP P i (⟨none, .store T (.tmp t) y, ty, pos, aft, none⟩ :: rest) env G
section
variable {HS : (Nat → Bool) → Heap} {asF : List (Nat × AlcX)} {KP : D → Prop} {P : List D → Prop → Prop} {i : Nat} {o : Oper} {rest : List Oper} {env env' : List D} {d : D} {g G : Prop}
theorem DChG.op (hg : gOk ops.toList (maskF (o.looksAt ops) 0 env) o.guard = some true) (h : ∀ S, OpQ C o (maskF (o.looksAt ops) 0 env) (HS S) d) (hH : ∀ S, HS (upd S i) = HS S) (n1 : lookA asF i = none) (n2 : nosA i asF = true) [hp : Put env o.dst d env'] (hk : DChG C ops HS asF KP P (i + 1) rest env' (G ∧ True)) : DChG C ops HS asF KP P i (o :: rest) env G :=
  .g (g := True) hg (fun S _ _ _ => OpH.mono (fun d' H' ⟨h1, h2⟩ => ⟨trivial, h1, by rw [hH]; exact h2⟩) (fun _ _ h => h.elim) (h S)) n1 n2 hk
theorem DChG.opP (hg : gOk ops.toList (maskF (o.looksAt ops) 0 env) o.guard = some true) (h : ∀ S, OpG C o (maskF (o.looksAt ops) 0 env) (HS S) d g KP) (hH : ∀ S, HS (upd S i) = HS S) (n1 : lookA asF i = none) (n2 : nosA i asF = true) [hp : Put env o.dst d env'] (hk : DChG C ops HS asF KP P (i + 1) rest env' (G ∧ g)) : DChG C ops HS asF KP P i (o :: rest) env G :=
  .g (g := g) hg (fun S _ _ _ => OpH.mono (fun d' H' ⟨h1, h2, h3⟩ => ⟨h1, h2, by rw [hH]; exact h3⟩) (fun _ _ h => h) (h S)) n1 n2 hk
theorem DChG.st (hg : gOk ops.toList (maskF (o.looksAt ops) 0 env) o.guard = some true) (h : ∀ S : Nat → Bool, S i = false → OpN C o (maskF (o.looksAt ops) 0 env) (HS S) d (HS (upd S i))) (n1 : lookA asF i = none) (n2 : nosA i asF = true) [hp : Put env o.dst d env'] (hk : DChG C ops HS asF KP P (i + 1) rest env' (G ∧ True)) : DChG C ops HS asF KP P i (o :: rest) env G :=
  .g (g := True) hg (fun S hS _ _ => OpH.mono (fun d' H' ⟨h1, h2⟩ => ⟨trivial, h1, h2⟩) (fun _ _ h => h.elim) (h S hS)) n1 n2 hk
theorem clF {l : List Oper} {S : Nat → Bool} {i j : Nat} (hc : ∀ j, S j = true → ∀ i', hasE l j i' = true → S i' = true) (hn : S i = false) (he : hasE l j i = true) : S j = false := by
  cases h : S j with
  | false => rfl
  | true => have := hc j h i he; rw [hn] at this; cases this
theorem DChG.opC (hg : gOk ops.toList (maskF (o.looksAt ops) 0 env) o.guard = some true)
    (h : ∀ S : Nat → Bool, S i = false → (∀ j, hasE ops.toList i j = true → S j = true) → (∀ j, S j = true → ∀ i', hasE ops.toList j i' = true → S i' = true) → OpQ C o (maskF (o.looksAt ops) 0 env) (HS S) d) (hH : ∀ S, HS (upd S i) = HS S) (n1 : lookA asF i = none) (n2 : nosA i asF = true) [hp : Put env o.dst d env'] (hk : DChG C ops HS asF KP P (i + 1) rest env' (G ∧ True)) : DChG C ops HS asF KP P i (o :: rest) env G :=
  .g (g := True) hg (fun S a b c => OpH.mono (fun d' H' ⟨h1, h2⟩ => ⟨trivial, h1, by rw [hH]; exact h2⟩) (fun _ _ h => h.elim) (h S a b c)) n1 n2 hk
theorem DChG.stC (hg : gOk ops.toList (maskF (o.looksAt ops) 0 env) o.guard = some true)
    (h : ∀ S : Nat → Bool, S i = false → (∀ j, hasE ops.toList i j = true → S j = true) → (∀ j, S j = true → ∀ i', hasE ops.toList j i' = true → S i' = true) → OpN C o (maskF (o.looksAt ops) 0 env) (HS S) d (HS (upd S i))) (n1 : lookA asF i = none) (n2 : nosA i asF = true) [hp : Put env o.dst d env'] (hk : DChG C ops HS asF KP P (i + 1) rest env' (G ∧ True)) : DChG C ops HS asF KP P i (o :: rest) env G :=
  .g (g := True) hg (fun S a b c => OpH.mono (fun d' H' ⟨h1, h2⟩ => ⟨trivial, h1, h2⟩) (fun _ _ h => h.elim) (h S a b c)) n1 n2 hk
theorem OpQ.pre {H H1 : Heap} (e : H = H1) (h : OpQ C o env H1 d) : OpQ C o env H d := e ▸ h
theorem OpN.both {H H1 H2 H3 : Heap} (e : H = H1) (e' : H2 = H3) (h : OpN C o env H1 d H3) : OpN C o env H d H2 := by subst e; subst e'; exact h
theorem OpN.pre {H H1 H2 : Heap} (e : H = H1) (h : OpN C o env H1 d H2) : OpN C o env H d H2 := e ▸ h
end
inductive DAtG (C : Ctx) (ops : Array Oper) (HS : (Nat → Bool) → Heap) (asF : List (Nat × AlcX)) (KP : D → Prop) (i : Nat) : Oper → List D → D → Prop → Prop
  | op {o : Oper} {env : List D} {d : D} {g : Prop} : gOk ops.toList (maskF (o.looksAt ops) 0 env) o.guard = some true → (∀ S : Nat → Bool, S i = false → (∀ j, hasE ops.toList i j = true → S j = true) → (∀ j, S j = true → ∀ i', hasE ops.toList j i' = true → S i' = true) → OpH C o (maskF (o.looksAt ops) 0 env) (HS S) (fun d' H' => g ∧ d' = d ∧ H' = HS (upd S i)) (fun d' H' => KP d' ∧ H' = HS S)) → lookA asF i = none → nosA i asF = true → DAtG C ops HS asF KP i o env d g
  | skip {o : Oper} {env : List D} {g : Prop} : gOk ops.toList (maskF (o.looksAt ops) 0 env) o.guard = some false → (∀ S, HS (upd S i) = HS S) → lookA asF i = none → nosA i asF = true → g → DAtG C ops HS asF KP i o env (.tup []) g
  | al {t : Tmp} {T : TypeId} {te : TE} {dz : D} {ds : List D} {op : Option (Nat × List D)} {ty : TypeId} {pos : String} {aft : Array Edge} {env : List D} {g : Prop} : C.ty T = some te → constD te.zero = some dz → cellsD dz = some ds → ds.all (okCell []) = true → (∀ S, HS (upd S i) = HS S) → t < env.length → lookA asF i = some (t, T, ds, op) → nosA i asF = true → g → DAtG C ops HS asF KP i ⟨some t, .alloc T, ty, pos, aft, none⟩ env .any g
  | sp {j : Nat} {t : Tmp} {T : TypeId} {te : TE} {ds ds' : List D} {d : D} {y : Operand} {ty : TypeId} {pos : String} {aft : Array Edge} {env : List D} {g : Prop} {dd : D} : C.ty T = some te → evO C (maskF ((⟨none, .store T (.tmp t) y, ty, pos, aft, none⟩ : Oper).looksAt ops) 0 env) y = some d → cellsD d = some ds' → ds'.length = te.size → te.size ≤ ds.length → ds'.all (okCell []) = true → D.pure.pures ds' = true → (∀ S, HS (upd S i) = HS S) → lookA asF i = none → lookA asF j = some (t, T, ds, some (i, ds')) → nosA i (asF.filter fun p => !(Nat.beq p.1 j)) = true → hasE ops.toList i j = true → g → DAtG C ops HS asF KP i ⟨none, .store T (.tmp t) y, ty, pos, aft, none⟩ env dd g
theorem DChG.split {HS : (Nat → Bool) → Heap} {asF : List (Nat × AlcX)} {KP : D → Prop} {P : List D → Prop → Prop} (hP : ∀ env G G', (G → G') → P env G' → P env G) {i : Nat} {l : List Oper} {env : List D} {G : Prop} (h : DChG C ops HS asF KP P i l env G) :
    ∃ (e : Nat → List D) (dv : Nat → D) (g : Nat → Prop), e i = env ∧ P (e (i + l.length)) (G ∧ ∀ j, i ≤ j → j < i + l.length → g j) ∧
      (∀ j o, l[j]? = some o → e (i + j + 1) = envPut (e (i + j)) o.dst (dv (i + j)) ∧ DAtG C ops HS asF KP (i + j) o (e (i + j)) (dv (i + j)) (g (i + j))) := by
  have key : ∀ {i : Nat} {o : Oper} {rest : List Oper} {env env' : List D} {d : D} {g0 G G1 : Prop}, env' = envPut env o.dst d → DAtG C ops HS asF KP i o env d g0 → (G ∧ g0 → G1) →
      (∃ (e : Nat → List D) (dv : Nat → D) (g : Nat → Prop), e (i + 1) = env' ∧ P (e (i + 1 + rest.length)) (G1 ∧ ∀ j, i + 1 ≤ j → j < i + 1 + rest.length → g j) ∧
        (∀ j o, rest[j]? = some o → e (i + 1 + j + 1) = envPut (e (i + 1 + j)) o.dst (dv (i + 1 + j)) ∧ DAtG C ops HS asF KP (i + 1 + j) o (e (i + 1 + j)) (dv (i + 1 + j)) (g (i + 1 + j)))) →
      ∃ (e : Nat → List D) (dv : Nat → D) (g : Nat → Prop), e i = env ∧ P (e (i + (o :: rest).length)) (G ∧ ∀ j, i ≤ j → j < i + (o :: rest).length → g j) ∧
        (∀ j o', (o :: rest)[j]? = some o' → e (i + j + 1) = envPut (e (i + j)) o'.dst (dv (i + j)) ∧ DAtG C ops HS asF KP (i + j) o' (e (i + j)) (dv (i + j)) (g (i + j))) := by
    intro i o rest env env' d g0 G G1 h1 h2 h3 hx
    obtain ⟨e, dv, gf, k1, k2, k3⟩ := hx
    refine ⟨fun j => if j = i then env else e j, fun j => if j = i then d else dv j, fun j => if j = i then g0 else gf j, by simp, ?_, fun j o' ho => ?_⟩
    · have hne : i + (o :: rest).length ≠ i := by simp
      simp only [hne, if_false]
      rw [show i + (o :: rest).length = i + 1 + rest.length by simp; omega]
      refine hP _ _ _ (fun x => ⟨h3 ⟨x.1, ?_⟩, fun j hj1 hj2 => ?_⟩) k2
      · have := x.2 i (Nat.le_refl _) (by omega); simpa using this
      have := x.2 j (by omega) (by omega)
      have hne2 : j ≠ i := by omega
      simpa [hne2] using this
    cases j with
    | zero =>
      simp at ho
      subst ho
      have : ¬ (i + 1 = i) := by omega
      simp only [Nat.add_zero, this, if_false, if_true]
      exact ⟨k1.trans h1, h2⟩
    | succ j =>
      have ho' : rest[j]? = some o' := by simpa using ho
      obtain ⟨q1, q2⟩ := k3 j o' ho'
      have n1 : ¬ (i + (j + 1) = i) := by omega
      have n2 : ¬ (i + (j + 1) + 1 = i) := by omega
      simp only [n1, n2, if_false]
      rw [show i + (j + 1) = i + 1 + j by omega]
      exact ⟨q1, q2⟩
  induction h with
  | @nil i env G h => exact ⟨fun _ => env, fun _ => .any, fun _ => True, rfl, hP _ _ _ (fun x => x.1) h, fun j o h => by simp at h⟩
  | @g i o rest env env' d g0 G h1 h2 h3 h4 hp hk ih => exact key hp.eq.symm (.op h1 h2 h3 h4) (fun x => x) ih
  | @skip i o rest env env' G h1 h2 h3 h4 hp hk ih => exact key (g0 := True) hp.eq.symm (.skip h1 h2 h3 h4 trivial) (fun x => x.1) ih
  | @al i t T te dz ds op ty pos aft rest env env' G h1 h2 h3 h4 h5 h6 h7 h8 hp hk ih => exact key (g0 := True) hp.eq.symm (.al h1 h2 h3 h4 h5 (Nat.le_of_ble_eq_true h6) h7 h8 trivial) (fun x => x.1) ih
  | sp h1 h2 h3 h4 h5 h6 h7 h8 h9 h10 h11 h12 _ ih => exact key (d := .tup []) (g0 := True) rfl (.sp h1 h2 h3 h4 (Nat.le_of_ble_eq_true h5) h6 h7 h8 h9 h10 h11 h12 trivial) (fun x => x.1) ih
theorem lookA_mem : ∀ {l : List (Nat × AlcX)} {j : Nat} {x : AlcX}, lookA l j = some x → (j, x) ∈ l
  | (i, y) :: l, j, x, h => by
    simp only [lookA] at h
    cases hb : Nat.beq j i with
    | true => rw [hb] at h; simp only [cond_true] at h; injection h with h; have := Nat.eq_of_beq_eq_true hb; subst this; subst h; simp
    | false => rw [hb] at h; simp only [cond_false] at h; exact List.mem_cons_of_mem _ (lookA_mem h)
theorem nosA_mem {i : Nat} : ∀ {l : List (Nat × AlcX)} {p : Nat × AlcX}, nosA i l = true → p ∈ l → ∀ k ds', p.2.2.2.2 = some (k, ds') → k ≠ i
  | (j, t, T, ds, none) :: l, p, h, hp, k, ds', e => by
    simp only [nosA] at h
    rcases List.mem_cons.1 hp with rfl | hp
    · cases e
    exact nosA_mem h hp k ds' e
  | (j, t, T, ds, some (k0, d0)) :: l, p, h, hp, k, ds', e => by
    simp only [nosA, Bool.and_eq_true, Bool.not_eq_true'] at h
    rcases List.mem_cons.1 hp with rfl | hp
    · injection e with e
      injection e with e _
      subst e
      intro hki
      subst hki
      rw [Nat.beq_refl] at h
      cases h.1
    exact nosA_mem h.2 hp k ds' e
theorem alcS_upd {S : Nat → Bool} {i : Nat} {x : AlcX} (h : ∀ k ds', x.2.2.2 = some (k, ds') → k ≠ i) : alcS (upd S i) x = alcS S x := by
  obtain ⟨t, T, ds, o⟩ := x
  cases o with
  | none => rfl
  | some p => obtain ⟨k, d⟩ := p; simp only [alcS]; rw [upd_ne _ (h k d rfl)]
structure OkA (l : List Oper) (m : Nat) (asF : List (Nat × AlcX)) : Prop where
  nd : (asF.map (·.1)).Nodup
  lt : ∀ p ∈ asF, p.1 < m
  st : ∀ p ∈ asF, ∀ k ds', p.2.2.2.2 = some (k, ds') → k < m ∧ hasE l k p.1 = true
theorem OkA.of {l : List Oper} {m : Nat} : ∀ {asF : List (Nat × AlcX)}, okA l m (asF.map fun p => (p.1, stI p.2)) = true → OkA l m asF
  | [], _ => ⟨by simp, fun p hp => by simp at hp, fun p hp => by simp at hp⟩
  | (j, x) :: r, h => by
    simp only [List.map_cons, okA, Bool.and_eq_true] at h
    obtain ⟨⟨⟨h1, h2⟩, h3⟩, h4⟩ := h
    have ih := OkA.of h4
    refine ⟨?_, fun p hp => ?_, fun p hp k ds' e => ?_⟩
    · simp only [List.map_cons, List.nodup_cons]
      refine ⟨fun hm => ?_, ih.nd⟩
      obtain ⟨p, hp1, hp2⟩ := List.mem_map.1 hm
      have := List.all_eq_true.1 h3 (p.1, stI p.2) (List.mem_map.2 ⟨p, hp1, rfl⟩)
      simp only [Bool.not_eq_true'] at this
      rw [hp2, Nat.beq_refl] at this
      cases this
    · rcases List.mem_cons.1 hp with rfl | hp
      · exact Nat.le_of_ble_eq_true h1
      exact ih.lt p hp
    rcases List.mem_cons.1 hp with rfl | hp
    · simp only [stI] at h2
      simp only at e
      rw [e] at h2
      simp only [Option.map_some, Bool.and_eq_true] at h2
      exact ⟨Nat.le_of_ble_eq_true h2.1, h2.2⟩
    exact ih.st p hp k ds' e
variable {l suf : List Oper} {m : Nat} {env : List D} {H : Heap}
theorem mask_le (ok : OkD l m) {e : Nat → List D} {dv : Nat → D} (hlex : ∀ i, i ≤ m → e i = envS m (dstOf l) dv env (fun j => decide (j < i))) {S : Nat → Bool} {i : Nat} {o : Oper} (ho : l[i]? = some o) (him : i < m) (hnl : S i = false) (hdep : ∀ j, hasE l i j = true → S j = true) (hcl : ∀ j, S j = true → ∀ i', hasE l j i' = true → S i' = true) :
    envLe (envS m (dstOf l) dv env S) (maskF (o.looksAt l.toArray) 0 (e i)) := by
  rw [hlex i (by omega)]
  refine envLe_of (by simp [envS, maskF_length]) fun u d d' h1 h2 => ?_
  rw [maskF_get, envS_get] at h2
  rw [envS_get] at h1
  cases hu : env[u]? with
  | none => rw [hu] at h1; simp at h1
  | some d0 =>
    rw [hu] at h1 h2
    simp only [Option.map_some, Option.some.injEq, Nat.zero_add] at h1 h2
    cases hc : (o.looksAt l.toArray).contains u with
    | false => rw [hc] at h2; right; rw [← h2]; rfl
    | true =>
      rw [hc] at h2
      left
      rw [← h2, ← h1]
      simp only [cond_true]
      by_cases hx : ∃ j, j < m ∧ dstOf l j = some u
      · obtain ⟨j, hj1, hj2⟩ := hx
        have hiff : S j = decide (j < i) := by
          by_cases e : j = i
          · subst e; rw [hnl]; simp
          obtain ⟨d1, d2⟩ := ok.dep i j o u him hj1 (fun h => e h.symm) ho hj2 hc
          rcases Nat.lt_or_gt_of_ne e with h | h
          · rw [hdep j (d1 h)]; simp [h]
          have : ¬ j < i := by omega
          simp only [this, decide_false]
          cases hl : S j with
          | false => rfl
          | true =>
            have := hcl j hl i (d2 h)
            rw [hnl] at this
            cases this
        cases hb : decide (j < i) with
        | true => exact (slot_some (S := fun j => decide (j < i)) ok.dist hj1 hb hj2).trans (slot_some (S := S) ok.dist hj1 (by rw [hiff]; exact hb) hj2).symm
        | false =>
          rw [slot_none, slot_none]
          · intro j' a1 a2 a3
            have := ok.dist j j' u hj1 a1 hj2 a3
            subst this
            rw [hiff, hb] at a2
            cases a2
          intro j' a1 a2 a3
          have := ok.dist j j' u hj1 a1 hj2 a3
          subst this
          rw [hb] at a2
          cases a2
      rw [slot_none, slot_none]
      · exact fun j a1 _ a3 => hx ⟨j, a1, a3⟩
      exact fun j a1 _ a3 => hx ⟨j, a1, a3⟩
theorem ARun.drawnE {id : Nat} {n : Nat} {pre : List Oper} (HS : (Nat → Bool) → Heap) (asF : List (Nat × AlcX)) (KP : D → Prop) {sk : List (Nat × Option Nat)} (hmix : C.P.follows .mixedOrders = true) (hpre : l.take n = pre) (hsuf : l.drop n = suf) (hB : okDraw l pre.length = true) (hsk : asF.map (fun p => (p.1, stI p.2)) = sk) (hA : okA l pre.length sk = true) (h0 : H = HS (fun _ => false)) (hp : ∀ env' S d, KP d → Q (.pan d) env' (HS S) df)
    (E : List D → Prop) (hE : ∀ envF, E envF → AS C Q l.toArray k envF (HS (fun j => decide (j < pre.length))) df (fun j => (lookA asF j).map (alcS (fun j => decide (j < pre.length)))) (fun j => decide (j < pre.length) && (lookA asF j).isSome) (List.range' pre.length (l.length - pre.length)))
    (hch : DChG C l.toArray HS asF KP (fun envF G => G → E envF) 0 pre env True) : ARun C Q (.code (.region id l.toArray true) :: k) env H df := by
  subst hpre
  subst hsuf
  subst hsk
  have ok := OkD.of hB
  have okA := OkA.of hA
  have hmle : (l.take n).length ≤ l.length := by rw [List.length_take]; omega
  obtain ⟨e, dv, g, k1, k2, k3⟩ := hch.split (fun _ _ _ hg h x => h (hg x))
  generalize hm : (l.take n).length = m at *
  simp only [Nat.zero_add] at k2 k3
  have hget : ∀ i o, i < m → l[i]? = some o → e (i + 1) = envPut (e i) o.dst (dv i) ∧ DAtG C l.toArray HS asF KP i o (e i) (dv i) (g i) := fun i o hi ho => k3 i o (by rw [List.getElem?_take, if_pos (by rw [← hm, List.length_take] at hi; omega)]; exact ho)
  have hlex := envS_lex (m := m) (dst := dstOf l) (dv := dv) (env := env) ok.dist k1 (fun i hi => by
    obtain ⟨o, ho⟩ : ∃ o, l[i]? = some o := ⟨l[i]'(by omega), by simp⟩
    have := (hget i o hi ho).1
    simp only [dstOf, ho, Option.bind_some]
    exact this)
  let alS : (Nat → Bool) → Nat → Option Alc := fun S j => (lookA asF j).map (alcS S)
  have hdstal : ∀ S j t T cs, j < m → alS S j = some (t, T, cs) → dstOf l j = some t := by
    intro S j t T cs hj hal
    simp only [alS] at hal
    obtain ⟨o, ho⟩ : ∃ o, l[j]? = some o := ⟨l[j]'(by omega), by simp⟩
    have hd := (hget j o hj ho).2
    generalize dv j = dj at hd
    generalize g j = gj at hd
    generalize e j = ej at hd
    cases hd with
    | op _ _ h1 _ => rw [h1] at hal; cases hal
    | skip _ _ h1 _ _ => rw [h1] at hal; cases hal
    | al q1 q2 q3 q4 q5 q6 h1 q8 q9 =>
      rw [h1] at hal
      rename_i t' T' te dz ds op ty pos aft
      cases op with
      | none => simp only [Option.map_some, alcS] at hal; injection hal with hal; injection hal with e1 _; subst e1; simp only [dstOf, ho, Option.bind_some]
      | some p => obtain ⟨kk, dd⟩ := p; simp only [Option.map_some, alcS] at hal; injection hal with hal; injection hal with e1 _; subst e1; simp only [dstOf, ho, Option.bind_some]
    | sp _ _ _ _ _ _ _ _ h1 _ _ _ _ => rw [h1] at hal; cases hal
  let Pp : (Nat → Bool) → List Nat → Prop := fun S order => (∀ j, S j = true → j < m ∧ g j) → AS C Q l.toArray k (envS m (dstOf l) dv env S) (HS S) df (alS S) (fun j => S j && (lookA asF j).isSome) order
  have main : ∀ (fuel t : Nat) (listed : Array Bool), listed.size = l.length → listed.toList.count false = fuel → (∀ j, Go.V.lst listed j = true → j < m ∧ ∀ i, hasE l j i = true → Go.V.lst listed i = true) → Pp (Go.V.lst listed) (Region.linearise.go .any l.toArray fuel t listed []) := by
    refine draw_all ok hmle Pp ?_ ?_
    · -- the end
      intro hS
      have := hE _ (k2 ⟨trivial, fun j _ hj => (hS j (by simpa using hj)).2⟩)
      rw [hlex m (Nat.le_refl _)] at this
      exact this
    intro S i rest him hnl hlt hdep hcl hP hg
    obtain ⟨o, ho⟩ : ∃ o, l[i]? = some o := ⟨l[i]'(by omega), by simp⟩
    have ho' : l.toArray[i]? = some o := by simpa using ho
    have hmask := mask_le ok hlex ho him hnl hdep hcl
    have henv : envS m (dstOf l) dv env (upd S i) = envPut (envS m (dstOf l) dv env S) o.dst (dv i) := by
      have := envS_put (dv := dv) (env := env) ok.dist (S := S) (S' := upd S i) him (upd_same S i) (fun j hj => upd_ne S hj)
      simpa only [dstOf, ho, Option.bind_some] using this
    have hgu : g i → ∀ j, upd S i j = true → j < m ∧ g j := fun hgi j hj => by
      by_cases e : j = i
      · subst e; exact ⟨him, hgi⟩
      rw [upd_ne _ e] at hj; exact hg j hj
    have hod : dstOf l i = o.dst := by simp only [dstOf, ho, Option.bind_some]
    have hdst : ∀ j t T cs, (S j && (lookA asF j).isSome) = true → alS S j = some (t, T, cs) → o.dst ≠ some t := by
      intro j t T cs hj hal he
      simp only [Bool.and_eq_true] at hj
      have hjm := hlt j hj.1
      have := ok.dist i j t him hjm (hod.trans he) (hdstal S j t T cs hjm hal)
      subst this
      rw [hnl] at hj
      cases hj.1
    have hpeU : lookA asF i = none → (fun j => upd S i j && (lookA asF j).isSome) = (fun j => S j && (lookA asF j).isSome) := fun hn => by
      funext j
      by_cases e : j = i
      · subst e; rw [hn]; simp
      rw [upd_ne _ e]
    have halU : nosA i asF = true → alS (upd S i) = alS S := fun hn => by
      funext j
      simp only [alS]
      cases hx : lookA asF j with
      | none => rfl
      | some x => simp only [Option.map_some]; rw [alcS_upd (fun kk d' e => nosA_mem hn (lookA_mem hx) kk d' e)]
    have hPu := hP
    simp only [Pp] at hPu
    have hd := (hget i o him ho).2
    generalize hdvi : dv i = dvi at hd henv
    generalize hgi : g i = gi at hd hgu
    generalize hei : e i = ei at hd hmask
    cases hd with
    | op h2 h3 h4 h5 =>
      refine AS.op ho' (gOk_le hmask h2) (OpH.le hmask (h3 S hnl hdep hcl)) hdst (fun d H' ⟨x, y, z⟩ => ?_) (fun d H' ⟨x, y⟩ => by subst y; exact hp _ _ _ x)
      subst y
      subst z
      have := hPu (hgu x)
      rw [henv, hpeU h4, halU h5] at this
      exact this
    | skip h2 h5 h4 h6 h7 =>
      refine AS.skip ho' (gOk_le hmask h2) hdst ?_
      have := hPu (hgu h7)
      rw [henv, hpeU h4, halU h6, h5] at this
      exact this
    | al h3 h4 h5 h6 h10 h7 h8 h9 h11 =>
      rename_i t T te dz ds op ty pos aft
      have hlS : alS S i = some (t, T, ds) := by
        simp only [alS, h8, Option.map_some]
        cases op with
        | none => rfl
        | some p =>
          obtain ⟨kk, dd⟩ := p
          have hst := (okA.st (i, t, T, ds, some (kk, dd)) (lookA_mem h8) kk dd rfl).2
          have : S kk = false := clF hcl hnl hst
          simp only [alcS, this, cond_false]
      refine AS.alloc (te := te) (dz := dz) (ds := ds) ho' h3 h4 h5 h6 (by simp [hnl]) hlS (fun j t' T' cs hj hal he => hdst j t' T' cs hj hal (by rw [he])) ?_ ?_
      · rw [← hei, hlex i (by omega)] at h7
        simpa [envS] using h7
      have := hPu (hgu h11)
      rw [henv, h10, halU h9] at this
      have hpe : (fun j => upd S i j && (lookA asF j).isSome) = upd (fun j => S j && (lookA asF j).isSome) i := by
        funext j
        by_cases e : j = i
        · subst e; rw [upd_same, upd_same, h8]; rfl
        rw [upd_ne _ e, upd_ne _ e]
      rw [hpe] at this
      exact this
    | sp h1 h2 h3 h4 h5 h6 h7 h8 h9 h10 h11 h12 h13 =>
      rename_i j t T te ds ds' d y ty pos aft
      have hy := h2
      have hSj : S j = true := hdep j h12
      have hy2 : evO C (envS m (dstOf l) dv env S) y = some d := by
        cases y with
        | tmp t' =>
          simp only [evO] at hy ⊢
          obtain ⟨d0, q1, q2⟩ := envLe_get hmask hy
          rcases q2 with q2 | q2
          · rw [q2]; exact q1
          subst q2; simp [cellsD] at h3
        | const v => exact hy
        | global gg => exact hy
        | func f => exact hy
      refine AS.stp (j := j) (te := te) (ds := ds) ho' h1 (by simp [hSj, h10]) (by simp only [alS, h10, Option.map_some, alcS, hnl, cond_false]) hy2 h3 h4 h5 h6 h7 ?_
      have := hPu (hgu h13)
      rw [henv, hpeU h9, h8] at this
      have hal2 : alS (upd S i) = fun j' => bif Nat.beq j' j then some (t, T, ds') else alS S j' := by
        funext j'
        by_cases e : j' = j
        · subst e
          simp only [alS, h10, Option.map_some, alcS, upd_same, cond_true, Nat.beq_refl]
        have hb : Nat.beq j' j = false := by
          cases hb : Nat.beq j' j with
          | false => rfl
          | true => exact (e (Nat.eq_of_beq_eq_true hb)).elim
        simp only [alS, hb, cond_false]
        cases hx : lookA asF j' with
        | none => rfl
        | some x =>
          simp only [Option.map_some]
          rw [alcS_upd (fun kk d' e2 => nosA_mem h11 (List.mem_filter.2 ⟨lookA_mem hx, by simp [hb]⟩) kk d' e2)]
      rw [hal2] at this
      exact this
  refine ⟨fun L0 w0 μ0 H0 w μ a hs hv hd he b cs hrd => ?_⟩
  have hst := stepR_region_draw (P := C.P) (b := b) (a := a) (k := k) (cs := cs) (w := w) (ops := l.toArray) (id := id)
  simp only [Region.schedule, hmix, Bool.true_or, if_true] at hst
  have hlst : Go.V.lst (Array.replicate l.toArray.size false) = fun _ => false := by
    funext j
    unfold Go.V.lst
    rw [Array.getD_eq_getD_getElem?, Array.getElem?_replicate]
    split <;> rfl
  have hrun := main l.toArray.size (w.tape w.drawn (.order b.fn id)) (Array.replicate l.toArray.size false) (by simp) (by simp) (by
    intro j hj
    rw [hlst] at hj
    cases hj)
  simp only [Pp, hlst] at hrun
  rw [envS_empty, ← h0] at hrun
  have hrun2 := ARun.ofAS (by simp) (hrun (fun j hj => by cases hj))
  have hstep : Step w { w with drawn := w.drawn + 1 } (forb L0 μ H) (forb L0 μ H) μ μ H H :=
    ⟨Nat.le_refl _, fun _ _ _ => rfl, fun _ _ h => h, fun _ _ h => h, fun i x hx => ⟨x, hx, fun o e => ⟨o, e, rfl, rfl, rfl, fun b cur _ h => ⟨cur, h, rfl⟩⟩⟩⟩
  have hevo : Evo w { w with drawn := w.drawn + 1 } μ μ H H :=
    ⟨rfl, rfl, rfl, Nat.le_refl _, fun _ _ _ => rfl, fun _ _ h => h, fun _ _ h => h, fun i x hx => ⟨x, hx, fun o e => ⟨o, e, rfl, rfl, rfl, fun b cur _ h => ⟨cur, h, rfl⟩⟩⟩⟩
  have hs' : SR C L0 { w with drawn := w.drawn + 1 } μ H := hs.next hevo hs.len (fun i o b h1 h2 => (hs.obj i o b h1 h2).same rfl) hs.inj hs.own
  obtain ⟨e', a', w', h5, h6⟩ := hrun2.out L0 w0 μ0 H0 _ μ a hs' (VRs.step hstep hv) (DfR.step hstep hd) (he.trans hevo) b cs (hrd.step hevo.map)
  exact ⟨e', a', w', h5, .of_steps (.one hst) h6⟩
theorem ARun.drawnG {id : Nat} {n : Nat} {pre : List Oper} (HS : (Nat → Bool) → Heap) (asF : List (Nat × AlcX)) (KP : D → Prop) {sk : List (Nat × Option Nat)} (hmix : C.P.follows .mixedOrders = true) (hpre : l.take n = pre) (hsuf : l.drop n = suf) (hB : okDraw l pre.length = true) (hsk : asF.map (fun p => (p.1, stI p.2)) = sk) (hA : okA l pre.length sk = true) (h0 : H = HS (fun _ => false)) (hp : ∀ env' S d, KP d → Q (.pan d) env' (HS S) df)
    (hch : DChG C l.toArray HS asF KP (fun envF G => G → AOps C Q l.toArray suf k (adoptE envF (HS (fun j => Nat.blt j pre.length)).length (finA (fun j => Nat.blt j pre.length) asF)) (HS (fun j => Nat.blt j pre.length) ++ (finA (fun j => Nat.blt j pre.length) asF).map objA) df) 0 pre env True) : ARun C Q (.code (.region id l.toArray true) :: k) env H df := by
  refine ARun.drawnE HS asF KP hmix hpre hsuf hB hsk hA h0 hp (fun envF => AOps C Q l.toArray suf k (adoptE envF (HS (fun j => Nat.blt j pre.length)).length (finA (fun j => Nat.blt j pre.length) asF)) (HS (fun j => Nat.blt j pre.length) ++ (finA (fun j => Nat.blt j pre.length) asF).map objA) df) (fun envF hk => ?_) hch
  subst hpre
  subst hsuf
  subst hsk
  have okA := OkA.of hA
  have hblt : (fun j => Nat.blt j (l.take n).length) = (fun j => decide (j < (l.take n).length)) := by
    funext j
    cases h : Nat.blt j (l.take n).length with
    | true => exact (decide_eq_true (show j < (l.take n).length from Nat.le_of_ble_eq_true h)).symm
    | false => rw [decide_eq_false]; intro hlt; rw [show Nat.blt j (l.take n).length = true from Nat.ble_eq_true_of_le hlt] at h; cases h
  rw [hblt] at hch
  rw [hblt] at hk
  have hnd : ((finA (fun j => decide (j < (l.take n).length)) asF).map (·.1)).Nodup := by
    simp only [finA, List.map_map]
    exact okA.nd
  refine AS.adoptAll (finA (fun j => decide (j < (l.take n).length)) asF) _ _ _ hnd (fun p hp => ?_) (fun j hj => ?_) ?_
  · obtain ⟨q, hq1, rfl⟩ := List.mem_map.1 hp
    have hl : lookA asF q.1 = some q.2 := by
      have hn := okA.nd
      clear hp hnd hk
      revert hn hq1
      generalize asF = L
      intro hq1 hn
      induction L with
      | nil => simp at hq1
      | cons x L ih =>
        simp only [List.map_cons, List.nodup_cons] at hn
        obtain ⟨xj, xx⟩ := x
        simp only [lookA]
        rcases List.mem_cons.1 hq1 with rfl | hq
        · simp [Nat.beq_refl]
        have hne : Nat.beq q.1 xj = false := by
          cases hb : Nat.beq q.1 xj with
          | false => rfl
          | true => exact (hn.1 (List.mem_map.2 ⟨q, hq, Nat.eq_of_beq_eq_true hb⟩)).elim
        rw [hne]; exact ih hq hn.2
    have hlt := okA.lt q hq1
    exact ⟨by simp only [hl, Option.map_some], by rw [hl, decide_eq_true hlt]; rfl⟩
  · simp only [Bool.and_eq_true, decide_eq_true_eq] at hj
    obtain ⟨a, ha⟩ := Option.isSome_iff_exists.1 hj.2
    have := lookA_mem ha
    simp only [finA, List.map_map]
    exact List.mem_map.2 ⟨(j, a), this, rfl⟩
  have := hk.out (l.take n).length (by rw [List.length_take]; rcases Nat.le_total n l.length with h | h; rw [Nat.min_eq_left h]; rw [Nat.min_eq_right h, List.drop_of_length_le (Nat.le_refl _), List.drop_of_length_le h])
  have hl2 : (l.drop n).length = l.length - (l.take n).length := by
    rw [List.length_drop, List.length_take]
    omega
  rw [hl2] at this
  exact this
theorem ARun.drawnF {id : Nat} {n : Nat} {pre : List Oper} (HS : (Nat → Bool) → Heap) (asF : List (Nat × AlcX)) (KP : D → Prop) {sk : List (Nat × Option Nat)} (hmix : C.P.follows .mixedOrders = true) (hpre : l.take n = pre) (hsuf : l.drop n = suf) (hB : okDraw l pre.length = true) (hsk : asF.map (fun p => (p.1, stI p.2)) = sk) (hA : okA l pre.length sk = true) (h0 : H = HS (fun _ => false)) (hpu : (finA (fun j => Nat.blt j pre.length) asF).all (fun p => D.pure.pures p.2.2.2) = true) (hp : ∀ env' S d, KP d → Q (.pan d) env' (HS S) df)
    (hch : DChG C l.toArray HS asF KP (fun envF G => G → AOps C Q l.toArray suf k (fixE envF (finA (fun j => Nat.blt j pre.length) asF)) (HS (fun j => Nat.blt j pre.length)) df) 0 pre env True) : ARun C Q (.code (.region id l.toArray true) :: k) env H df := by
  refine ARun.drawnE HS asF KP hmix hpre hsuf hB hsk hA h0 hp (fun envF => AOps C Q l.toArray suf k (fixE envF (finA (fun j => Nat.blt j pre.length) asF)) (HS (fun j => Nat.blt j pre.length)) df) (fun envF hk => ?_) hch
  subst hpre
  subst hsuf
  subst hsk
  have okA := OkA.of hA
  have hblt : (fun j => Nat.blt j (l.take n).length) = (fun j => decide (j < (l.take n).length)) := by
    funext j
    cases h : Nat.blt j (l.take n).length with
    | true => exact (decide_eq_true (show j < (l.take n).length from Nat.le_of_ble_eq_true h)).symm
    | false => rw [decide_eq_false]; intro hlt; rw [show Nat.blt j (l.take n).length = true from Nat.ble_eq_true_of_le hlt] at h; cases h
  rw [hblt] at hk hpu
  have hnd : ((finA (fun j => decide (j < (l.take n).length)) asF).map (·.1)).Nodup := by
    simp only [finA, List.map_map]
    exact okA.nd
  refine AS.fixAll (finA (fun j => decide (j < (l.take n).length)) asF) _ _ hnd (fun p hp => List.all_eq_true.1 hpu p hp) (fun p hp => ?_) (fun j hj => ?_) ?_
  · obtain ⟨q, hq1, rfl⟩ := List.mem_map.1 hp
    have hl : lookA asF q.1 = some q.2 := by
      have hn := okA.nd
      clear hp hnd hk hpu
      revert hn hq1
      generalize asF = L
      intro hq1 hn
      induction L with
      | nil => simp at hq1
      | cons x L ih =>
        simp only [List.map_cons, List.nodup_cons] at hn
        obtain ⟨xj, xx⟩ := x
        simp only [lookA]
        rcases List.mem_cons.1 hq1 with rfl | hq
        · simp [Nat.beq_refl]
        have hne : Nat.beq q.1 xj = false := by
          cases hb : Nat.beq q.1 xj with
          | false => rfl
          | true => exact (hn.1 (List.mem_map.2 ⟨q, hq, Nat.eq_of_beq_eq_true hb⟩)).elim
        rw [hne]; exact ih hq hn.2
    have hlt := okA.lt q hq1
    exact ⟨by simp only [hl, Option.map_some], by rw [hl, decide_eq_true hlt]; rfl⟩
  · simp only [Bool.and_eq_true, decide_eq_true_eq] at hj
    obtain ⟨a, ha⟩ := Option.isSome_iff_exists.1 hj.2
    have := lookA_mem ha
    simp only [finA, List.map_map]
    exact List.mem_map.2 ⟨(j, a), this, rfl⟩
  have := hk.out (l.take n).length (by rw [List.length_take]; rcases Nat.le_total n l.length with h | h; rw [Nat.min_eq_left h]; rw [Nat.min_eq_right h, List.drop_of_length_le (Nat.le_refl _), List.drop_of_length_le h])
  have hl2 : (l.drop n).length = l.length - (l.take n).length := by
    rw [List.length_drop, List.length_take]
    omega
  rw [hl2] at this
  exact this
end
theorem AOps.fixed {C : Ctx} {Q : Post} {ops : Array Oper} {rest : List Oper} {k : List Item} {env env' : List D} {H : Heap} {df : List ADef} {asZ as' : List (Nat × Alc)} (has : asZ = as') [ha : FixE env as' env'] (hk : AOps C Q ops rest k env' H df) : AOps C Q ops rest k (fixE env asZ) H df := by
  rw [has, ha.eq]; exact hk
theorem AOps.fin {C : Ctx} {Q : Post} {ops : Array Oper} {rest : List Oper} {k : List Item} {env env' : List D} {H H' : Heap} {df : List ADef} {n : Nat} {asZ as' : List (Nat × Alc)} (hn : H.length = n) (has : asZ = as') [ha : AdoptE env n as' env'] (hH : H ++ asZ.map objA = H') (hk : AOps C Q ops rest k env' H' df) : AOps C Q ops rest k (adoptE env H.length asZ) (H ++ asZ.map objA) df := by
  subst hn; rw [has, ha.eq, ← has, hH]; exact hk
end Go.V
/- A VARIABLE THAT IS WRITTEN ONCE, where it is made. -/
namespace Go.V
open Go.RowKit
section
variable {C : Ctx} {Q : Post} {ops : Array Oper} {rest : List Oper} {k : List Item} {env env' : List D} {H : Heap} {df : List ADef} {t : Tmp} {T : TypeId} {te : TE} {d : D} {ds : List D} {y : Operand} {ty1 ty2 : TypeId} {p1 p2 : String} {a1 a2 : Array Edge}
theorem ZaX {dz : D} {zs : List D} (ht : C.ty T = some te) (hz : constD te.zero = some dz) (hzs : cellsD dz = some zs) (hzk : zs.all (okCell []) = true) (hzl : zs.length = te.size) (hy : evO C (env.set t .any) y = some d) (htl : Nat.blt t env.length = true) (hc : cellsD d = some ds) (hn : ds.length = te.size) (hok : ds.all (okCell H) = true) (hpu : D.pure.pures ds = true) [hp : Put env (some t) (.sptr ds) env'] (hk : AOps C Q ops rest k env' H df) :
    AOps C Q ops (⟨some t, .alloc T, ty1, p1, a1, none⟩ :: ⟨none, .store T (.tmp t) y, ty2, p2, a2, none⟩ :: rest) k env H df := by
  refine ⟨fun i hi => ⟨fun L0 w0 μ0 H0 w μ a hs hv hd he b cs hrd => ?_⟩⟩
  have ti := (ty_tic ht).1
  have htl' : t < env.length := Nat.le_of_ble_eq_true htl
  have hta : t < a.tmps.size := by have := VRs_length hv; rw [Array.length_toList] at this; rw [this]; exact htl'
  have ho1 : ops[i]? = some ⟨some t, .alloc T, ty1, p1, a1, none⟩ := by have := drop_get hi; simpa using this
  have hi2 := drop_next hi
  have ho2 : ops[i + 1]? = some ⟨none, .store T (.tmp t) y, ty2, p2, a2, none⟩ := by have := drop_get hi2; simpa using this
  let w1 := w.alloc (.cells te.zero.cells T)
  let ptr : Value := .pointer (some ⟨w.heap.size, 0, none⟩)
  let b1 := a.put (some t) ptr
  have hrun1 : (execOp a.eval ⟨some t, .alloc T, ty1, p1, a1, none⟩).run C.P w = .ok (.value ptr) w1 := by
    simp [execOp, Instr.alloc, ti.run_zero, newVar, newRow, ptr, w1]
  have hnew : w1.heap[w.heap.size]? = some (.cells te.zero.cells T (0, 0)) := heap_alloc_new w _
  obtain ⟨sK, eK⟩ := hs.allocK (.cells te.zero.cells T)
  have st1 := eK.step L0
  have hy0 : evO C env y = some d ∧ b1.eval y = a.eval y := by
    cases y with
    | tmp t' =>
      simp only [evO] at hy ⊢
      rw [List.getElem?_set] at hy
      by_cases e : t = t'
      · subst e
        simp only [if_true, htl'] at hy
        injection hy with hy
        subst hy
        simp [cellsD] at hc
      simp only [e, if_false] at hy
      refine ⟨hy, ?_⟩
      simp only [Act.eval, b1, Act.put]
      rw [Array.getD_eq_getD_getElem?, Array.getD_eq_getD_getElem?, Array.getElem?_setIfInBounds_ne e]
    | const v => exact ⟨hy, rfl⟩
    | global g => exact ⟨hy, rfl⟩
    | func f => exact ⟨hy, rfl⟩
  have ey := evO_ok hs hv hy0.1
  rw [← hy0.2] at ey
  obtain ⟨v1, v2⟩ := cellsD_ok hc hok ey
  have vl := VRs_length v1
  obtain ⟨z1, _⟩ := cellsD_ok (w := w) (L := fun _ => True) (μ := []) (H := []) hzs hzk (constD_ok hz)
  have zl := VRs_length z1
  rw [Array.length_toList] at zl
  have hst := run_storeCells_at C.P w.heap.size 0 T (b1.eval y).cells.toList 0 te.zero.cells w1 hnew (by rw [vl]; omega) v2
  let cur' : Array Value := (te.zero.cells.toList.take 0 ++ (b1.eval y).cells.toList ++ te.zero.cells.toList.drop (0 + (b1.eval y).cells.toList.length)).toArray
  let w2 := w1.setRow w.heap.size cur'
  have hpt : b1.eval (.tmp t) = ptr := by
    simp only [Act.eval, b1, Act.put]
    rw [Array.getD_eq_getD_getElem?, Array.getElem?_setIfInBounds]
    simp [hta]
  have hrun2 : (execOp b1.eval ⟨none, .store T (.tmp t) y, ty2, p2, a2, none⟩).run C.P w1 = .ok .skip w2 := by
    simp only [execOp, hpt, ptr, Sem.run_bind, Instr.storeAt, storeVar, Instr.sureAddr, Sem.run_pure, Result.andThen_ok, ti.run_size]
    have : ¬ (b1.eval y).cells.size ≠ te.size := by
      rw [Array.length_toList] at vl
      omega
    simp only [this, if_false, Sem.run_bind, Sem.run_pure, Result.andThen_ok]
    simp only [Nat.add_zero] at hst
    rw [hst]
    simp [w2, cur']
  rw [List.length_cons, List.length_cons, List.range'_succ, List.range'_succ]
  have hwp1 : Oper.wp C.P ⟨some t, .alloc T, ty1, p1, a1, none⟩ a w (fun a' w' => a' = b1 ∧ w' = w1) (fun _ _ _ => False) := by
    unfold Oper.wp; rw [hrun1]; exact ⟨rfl, rfl⟩
  have hwp2 : Oper.wp C.P ⟨none, .store T (.tmp t) y, ty2, p2, a2, none⟩ b1 w1 (fun a' w' => a' = b1 ∧ w' = w2) (fun _ _ _ => False) := by
    unfold Oper.wp; rw [hrun2]; exact ⟨rfl, rfl⟩
  have nd1 : ∀ (d' : Deferred) (w' : World), ¬ ((({ a with defers := d' :: a.defers } : Act).put (some t) undef) = b1 ∧ w' = w1) := fun d' w' ⟨h, _⟩ => no_defer h
  have nd2 : ∀ (d' : Deferred) (w' : World), ¬ ((({ b1 with defers := d' :: b1.defers } : Act).put none undef) = b1 ∧ w' = w2) := fun d' w' ⟨h, _⟩ => no_defer (dst := none) (v := undef) h
  rcases op_step (rest := (i + 1) :: List.range' (i + 1 + 1) rest.length) ho1 (by simp [Region.wanted]) hwp1 (by rintro ⟨_, _, h⟩; exact h) b (.inr nd1) k cs with ⟨a', w', ⟨e1, e2⟩, hst1⟩ | ⟨_, _, _, h, _⟩
  · subst e1; subst e2
    rcases op_step (rest := List.range' (i + 1 + 1) rest.length) ho2 (by simp [Region.wanted]) hwp2 (by rintro ⟨_, _, h⟩; exact h) b (.inr nd2) k cs with ⟨a', w', ⟨e1, e2⟩, hst2⟩ | ⟨_, _, _, h, _⟩
    · subst e1; subst e2
      have hoth : ∀ b', b' < w.heap.size → w2.heap[b']? = w.heap[b']? := fun b' hb' => by
        have h1 : w2.heap[b']? = w1.heap[b']? := setRow_other w1 w.heap.size b' cur' (by omega)
        rw [h1]; exact Below.heap_alloc w _ b' hb'
      have hsz : w2.heap.size = w.heap.size + 1 := by simp [w2, w1]
      have he2 : Evo w w2 μ μ H H := ⟨rfl, rfl, rfl, by omega, fun b' hb' _ => hoth b' hb', fun _ _ h => h, fun _ _ h => h, fun i x hx => ⟨x, hx, fun o' e => ⟨o', e, rfl, rfl, rfl, fun b' cur _ hw => ⟨cur, by rw [hoth b' (Array.getElem?_eq_some_iff.1 hw).1]; exact hw, rfl⟩⟩⟩⟩
      have hs2 : SR C L0 w2 μ H := hs.next he2 hs.len (fun i o b' h1 h2 => (hs.obj i o b' h1 h2).same (hoth b' (hs.block_lt h1 h2))) hs.inj hs.own
      have st2 := he2.step L0
      have hrow : w2.heap[w.heap.size]? = some (.cells cur' T (0, 0)) := setRow_heap w1 w.heap.size te.zero.cells cur' T (0, 0) hnew
      have hvp : VR w2 (forb L0 μ H) μ H (.sptr ds) ptr := by
        simp only [VR]
        refine ⟨⟨w.heap.size, 0, none⟩, rfl, by simp [hsz], fun hfb => Nat.lt_irrefl _ (hs.forb_lt hfb), VRL_mk fun j d' hd' => ?_⟩
        obtain ⟨v, k1, k2⟩ := VRs_get v1 hd'
        refine ⟨v, ?_, v2 v (List.mem_of_getElem? k1), ?_⟩
        · rw [Nat.zero_add, add_lit, cell_row hrow]
          simp only [cur', List.take_zero, List.nil_append, List.getElem?_toArray]
          rw [List.getElem?_append_left (List.getElem?_eq_some_iff.1 k1).1]; exact k1
        exact VR.step st2.pure (VR.drop (pures_at hpu hd') k2)
      have hv2 : VRs w2 (forb L0 μ H) μ H env' b1.tmps.toList := by
        rw [← hp.eq]
        exact VRs_put (dst := some t) (VRs.step st2 hv) hvp
      obtain ⟨e, a', w', h3, h4⟩ := (hk.out (i + 1 + 1) (drop_next hi2)).out L0 w0 μ0 H0 w2 μ b1 hs2 hv2 (by rw [show b1.defers = a.defers from put_defers a _ _]; exact DfR.step st2 hd) (he.trans he2) b cs (hrd.step he2.map)
      exact ⟨e, a', w', h3, .of_steps (Steps.trans hst1 hst2) h4⟩
    exact h.elim
  exact h.elim
end
end Go.V
/- SEVERAL VARIABLES THAT ARE WRITTEN ONCE, made and written in one statement. -/
namespace Go.V
open Go.RowKit
section
variable {C : Ctx} {Q : Post} {ops : Array Oper} {rest : List Oper} {k : List Item} {env env' : List D} {H : Heap} {df : List ADef}
structure AlW (C : Ctx) (env : List D) (t : Tmp) (T : TypeId) (y : Operand) (te : TE) (zs ds : List D) : Prop where
  ty : C.ty T = some te
  z : ∃ dz, constD te.zero = some dz ∧ cellsD dz = some zs
  zk : zs.all (okCell []) = true
  zl : zs.length = te.size
  y : ∃ d, evO C env y = some d ∧ cellsD d = some ds
  n : ds.length = te.size
  ok : ds.all (okCell []) = true
  pu : D.pure.pures ds = true
  tl : t < env.length
variable {t1 t2 t3 : Tmp} {T1 T2 T3 : TypeId} {y1 y2 y3 : Operand} {te1 te2 te3 : TE} {zs1 ds1 zs2 ds2 zs3 ds3 : List D} {u1 u2 u3 v1 v2 v3 : TypeId} {p1 p2 p3 q1 q2 q3 : String} {a1 a2 a3 b1 b2 b3 : Array Edge}
end
end Go.V
/- A FIELD OF A STRUCT that is no variable. -/
namespace Go.V
open Go.RowKit
section
variable {C : Ctx} {env : List D} {H : Heap} {dst : Option Tmp} {ty : TypeId} {pos : String} {aft : Array Edge} {gd : Option (Nat × Bool)} {x : Operand} {T : TypeId} {te : TE} {f : Nat} {cs ds : List D} {d : D} {fields : Array Field} {fl : Field}
end
end Go.V
/- A cell of an object, told anew. -/
namespace Go.V
open Go.RowKit
end Go.V
/- m[k] of a map that is written no longer. -/
namespace Go.V
open Go.RowKit
section
variable {C : Ctx} {env : List D} {H H' : Heap} {dst : Option Tmp} {ty : TypeId} {pos : String} {aft : Array Edge} {gd : Option (Nat × Bool)} {x y z : Operand} {d : D} {T kt et : TypeId} {te : TE}
theorem ZlY {k : IntKind} {n : Int} {ks us : List D} {r : Option D} {dz : D} (hm : C.P.underlying T = some (.map kt et)) (hk : C.P.underlying kt = some (.int k)) (hte : C.ty et = some te) (hdz : constD te.zero = some dz) (hx : evO C env x = some (.mapv ks us)) (hy : evO C env y = some (.int k n)) (hl : ks.length = us.length) (hf : findI k n (ks.zip us) = some r) :
    OpQ C ⟨dst, .lookup T x y false, ty, pos, aft, gd⟩ env H (r.getD dz) :=
  OpQ.of_runS fun L0 w μ a hs he => by
    have ex := he _ _ hx
    have ey := he _ _ hy
    simp only [VR] at ex ey
    obtain ⟨b, ea, clock, ex, _, _, k1, k2, k3⟩ := ex
    have hfn := findNow_ok 0 hf (by rw [List.map_fst_zip (by omega)]; exact k2) (by rw [List.map_snd_zip (by omega)]; exact k3)
    have hg : (getObj b).run C.P w = .ok (.map ea clock) w := by simp [getObj, Sem.run, k1]
    cases r with
    | none =>
      simp only at hfn
      refine ⟨te.zero, ?_, constD_ok hdz⟩
      simp only [execOp, ex, ey, Instr.lookup, Sem.run_bind, run_underlying hm, Result.andThen_ok, hg, Sem.run_pure, run_checkKey_int hk, run_findKeyV hk hfn, (ty_tic hte).1.run_zero, Bool.false_eq_true, if_false]
    | some d =>
      simp only at hfn
      obtain ⟨j, v, hfn, hvd⟩ := hfn
      refine ⟨v, ?_, VR.lift hvd⟩
      simp only [execOp, ex, ey, Instr.lookup, Sem.run_bind, run_underlying hm, Result.andThen_ok, hg, Sem.run_pure, run_checkKey_int hk, run_findKeyV hk hfn, Bool.false_eq_true, if_false]
end
end Go.V
/- STATEMENTS THAT DRAW THEIR ORDER, order by order. -/
namespace Go.V
open Go.RowKit
def orders (l : List Oper) (m : Nat) : Nat → List Nat → List (List Nat)
  | 0, _ => [List.range' m (l.length - m)]
  | f + 1, und => (und.filter fun i => und.all fun j => !hasE l i j).flatMap fun i => (orders l m f (und.erase i)).map (i :: ·)
theorem orders_all {l : List Oper} {m : Nat} (ok : OkD l m) (hm : m ≤ l.length) (fuel t : Nat) (hf : l.length = fuel) :
    Region.linearise.go .any l.toArray fuel t (Array.replicate l.length false) [] ∈ orders l m m (List.range m) := by
  have hlst : lst (Array.replicate l.length false) = fun _ => false := by
    funext j
    unfold lst
    rw [Array.getD_eq_getD_getElem?, Array.getElem?_replicate]
    split <;> rfl
  have main := draw_all ok hm (fun S rest => ∀ und : List Nat, und.Nodup → (∀ j, j ∈ und ↔ j < m ∧ S j = false) → rest ∈ orders l m und.length und)
    (by
      intro und _ h
      have : und = [] := by
        rcases und with _ | ⟨a, r⟩
        · rfl
        have := (h a).1 (List.mem_cons_self ..)
        simp at this
        omega
      subst this
      simp [orders])
    (by
      intro S i rest him hS hlt hedge _ hP und hnd h
      have hi : i ∈ und := (h i).2 ⟨him, hS⟩
      have hlen : und.length = (und.erase i).length + 1 := by
        rw [List.length_erase_of_mem hi]
        have := List.length_pos_of_mem hi
        omega
      rw [hlen]
      refine List.mem_flatMap.2 ⟨i, List.mem_filter.2 ⟨hi, List.all_eq_true.2 fun j hj => ?_⟩, List.mem_map.2 ⟨rest, ?_, rfl⟩⟩
      · cases hE : hasE l i j with
        | false => rfl
        | true =>
          have h1 := hedge j hE
          have h2 := ((h j).1 hj).2
          rw [h1] at h2; cases h2
      refine hP _ (hnd.erase i) fun j => ?_
      rw [hnd.mem_erase_iff, h j]
      constructor
      · rintro ⟨h1, h2, h3⟩; exact ⟨h2, by rw [upd_ne S h1]; exact h3⟩
      rintro ⟨h1, h2⟩
      have hne : j ≠ i := by rintro rfl; rw [upd_same] at h2; cases h2
      exact ⟨hne, h1, by rw [upd_ne S hne] at h2; exact h2⟩)
    fuel t (Array.replicate l.length false) (by simp) (by simp [hf]) (by
      intro j hj
      rw [hlst] at hj
      cases hj)
  rw [hlst] at main
  have := main (List.range m) List.nodup_range (fun j => by simp)
  simpa using this
theorem allOf {α : Type} {P : α → Prop} {l l' : List α} (h : l = l') (h2 : ∀ x ∈ l', P x) : ∀ x ∈ l, P x := h ▸ h2
theorem consAll {α : Type} {P : α → Prop} {a : α} {l : List α} (h : P a) (h2 : ∀ x ∈ l, P x) : ∀ x ∈ a :: l, P x := fun x hx => by
  rcases List.mem_cons.1 hx with rfl | hx
  · exact h
  exact h2 x hx
theorem nilAll {α : Type} {P : α → Prop} : ∀ x ∈ ([] : List α), P x := fun _ h => by cases h
section
variable {C : Ctx} {Q : Post} {k : List Item} {env env' : List D} {H H' : Heap} {df : List ADef} {l : List Oper} {ops : Array Oper} {o : Oper} {i : Nat} {is : List Nat} {d : D}
theorem ARun.drawnAll {id : Nat} (m : Nat) (hmix : C.P.follows .mixedOrders = true) (hm : Nat.ble m l.length = true) (hB : okDraw l m = true)
    (hk : ∀ ord ∈ orders l m m (List.range m), ARun C Q (.inRegion l.toArray ord :: k) env H df) : ARun C Q (.code (.region id l.toArray true) :: k) env H df := by
  refine ⟨fun L0 w0 μ0 H0 w μ a hs hv hd he b cs hrd => ?_⟩
  have hst := stepR_region_draw (P := C.P) (b := b) (a := a) (k := k) (cs := cs) (w := w) (ops := l.toArray) (id := id)
  simp only [Region.schedule, hmix, Bool.true_or, if_true] at hst
  have hrun := hk _ (orders_all (OkD.of hB) (Nat.le_of_ble_eq_true hm) l.length (w.tape w.drawn (.order b.fn id)) rfl)
  have hstep : Step w { w with drawn := w.drawn + 1 } (forb L0 μ H) (forb L0 μ H) μ μ H H :=
    ⟨Nat.le_refl _, fun _ _ _ => rfl, fun _ _ h => h, fun _ _ h => h, fun i x hx => ⟨x, hx, fun o e => ⟨o, e, rfl, rfl, rfl, fun b cur _ h => ⟨cur, h, rfl⟩⟩⟩⟩
  have hevo : Evo w { w with drawn := w.drawn + 1 } μ μ H H :=
    ⟨rfl, rfl, rfl, Nat.le_refl _, fun _ _ _ => rfl, fun _ _ h => h, fun _ _ h => h, fun i x hx => ⟨x, hx, fun o e => ⟨o, e, rfl, rfl, rfl, fun b cur _ h => ⟨cur, h, rfl⟩⟩⟩⟩
  have hs' : SR C L0 { w with drawn := w.drawn + 1 } μ H := hs.next hevo hs.len (fun i o b h1 h2 => (hs.obj i o b h1 h2).same rfl) hs.inj hs.own
  obtain ⟨e', a', w', h5, h6⟩ := hrun.out L0 w0 μ0 H0 _ μ a hs' (VRs.step hstep hv) (DfR.step hstep hd) (he.trans hevo) b cs (hrd.step hevo.map)
  exact ⟨e', a', w', h5, .of_steps (.one hst) h6⟩
structure AOne (C : Ctx) (Q : Post) (ops : Array Oper) (o : Oper) (is : List Nat) (k : List Item) (env : List D) (H : Heap) (df : List ADef) : Prop where
  mk :: (out : ∀ i : Nat, ops[i]? = some o → ARun C Q (.inRegion ops (i :: is) :: k) env H df)
theorem yo_opH {K KP : D → Heap → Prop} (hg : gOk ops.toList env o.guard = some true) (h : OpH C o env H K KP) (hk : ∀ d H', K d H' → ARun C Q (.inRegion ops is :: k) (envPut env o.dst d) H' df) (hp : ∀ d H', KP d H' → Q (.pan d) env H' df) :
    AOne C Q ops o is k env H df := by
  refine ⟨fun i ho => ⟨fun L0 w0 μ0 H0 w μ a hs hv hd he b cs hrd => ?_⟩⟩
  have hw := gOk_ok (C := C) hv hg
  have h1 := h.out L0 w μ a hs hv
  rcases op_step (rest := is) ho hw h1 (by rintro ⟨a0, w1, v, d, H', μ', h2, _⟩; cases h2) b (.inr fun dd w' ⟨v, d, H', μ', _, h2, _⟩ => no_defer h2) k cs with
    ⟨a', w', ⟨v, d, H', μ', hK, rfl, hs', hd', he'⟩, hst⟩ | ⟨chain, w', todo, ⟨v, d, H', μ', hch, _, hK, hs', hd', he'⟩, hst⟩
  · have hst' := he'.step L0
    have h2 := (hk d H' hK).out L0 w0 μ0 H0 w' μ' (a.put o.dst v) hs' (VRs_put (VRs.step hst' hv) hd') (by rw [put_defers]; exact DfR.step hst' hd) (he.trans he') b cs (hrd.step he'.map)
    obtain ⟨e, a', w'', h3, h4⟩ := h2
    exact ⟨e, a', w'', h3, .of_steps hst h4⟩
  have hst' := he'.step L0
  injection hch with hch
  subst hch
  exact ⟨.panic (pan1 v), a, w', ⟨.pan d, env, H', μ', df, hp d H' hK, hs', VRs.step hst' hv, DfR.step hst' hd, ⟨v, rfl, hd'⟩, he.trans he'⟩, todo, hst⟩
class LAt (l : List Oper) (i : Nat) (o : outParam Oper) : Prop where
  eq : l[i]? = some o
instance LAt.zero {a : Oper} {l : List Oper} : LAt (a :: l) 0 a := ⟨rfl⟩
instance LAt.succ {a o : Oper} {l : List Oper} {n : Nat} [h : LAt l n o] : LAt (a :: l) (n + 1) o := ⟨by rw [List.getElem?_cons_succ]; exact h.eq⟩
theorem yo_at [h : LAt l i o] (hk : AOne C Q l.toArray o is k env H df) : ARun C Q (.inRegion l.toArray (i :: is) :: k) env H df := hk.out i (by simpa using h.eq)
theorem yo_op (hg : gOk ops.toList env o.guard = some true) (h : OpQ C o env H d) [hp : Put env o.dst d env'] (hk : ARun C Q (.inRegion ops is :: k) env' H df) : AOne C Q ops o is k env H df :=
  yo_opH hg h (fun d' H' ⟨h1, h2⟩ => by subst h1; subst h2; rw [hp.eq]; exact hk) (fun _ _ h => h.elim)
theorem yo_new (hg : gOk ops.toList env o.guard = some true) (h : OpN C o env H d H') [hp : Put env o.dst d env'] (hk : ARun C Q (.inRegion ops is :: k) env' H' df) : AOne C Q ops o is k env H df :=
  yo_opH hg h (fun d' h' ⟨h1, h2⟩ => by subst h1; subst h2; rw [hp.eq]; exact hk) (fun _ _ h => h.elim)
theorem yo_nil (h : ARun C Q k env H df) : ARun C Q (.inRegion ops [] :: k) env H df := ARun.quiet (fun _ _ _ _ => stepR_region_end) h
end
end Go.V
/- SLICES THAT GROW BY APPEND, where what became of the old rows is forgotten. -/
namespace Go.V
open Go.RowKit
def growT (J : Heap) (e : TypeId) : List D → Heap
  | [] => J
  | c :: cs => J ++ [some ⟨c :: cs, e, 1, true, none⟩]
def growD (k : Nat) : List D → D
  | [] => .nilsl
  | c :: cs => .row k (cs.length + 1)
class GrowL (H : Heap) (n : outParam Nat) (J : outParam Heap) (e : outParam TypeId) (cs : outParam (List D)) (F : outParam (Heap → Heap)) : Prop where
  prf : ∃ B : Heap, B.length = n ∧ H = B ++ growT J e cs ∧ F = fun X => B ++ X
instance GrowL.base {J : Heap} {e : TypeId} {cs : List D} : GrowL (growT J e cs) 0 J e cs (fun X => X) := ⟨[], rfl, rfl, rfl⟩
instance GrowL.cons {l : Heap} {b : Option AObj} {n : Nat} {J : Heap} {e : TypeId} {cs : List D} {F : Heap → Heap} [g : GrowL l n J e cs F] : GrowL (b :: l) (n + 1) J e cs (fun X => b :: F X) := by
  obtain ⟨B, h1, h2, h3⟩ := g.prf
  exact ⟨b :: B, by simp [h1], by rw [h2]; rfl, by rw [h3]; rfl⟩
section
variable {C : Ctx} {Q : Post} {k : List Item} {env env' : List D} {H H0 : Heap} {df : List ADef} {ops : Array Oper} {rest : List Oper} {i : Nat} {is : List Nat} {d dx : D}
variable {dst : Option Tmp} {ty : TypeId} {pos : String} {aft : Array Edge} {gd : Option (Nat × Bool)} {x y : Operand} {T e : TypeId} {te tee : TE} {n b S : Nat} {J : Heap} {cs : List D} {F : Heap → Heap} {zv : Value} {dz : D} {zs : List D}
theorem h_grow [g : GrowL H0 n J e cs F] (ht : C.ty T = some ⟨.slice e, S, b, zv⟩) (hee : C.ty e = some tee) (h1 : tee.size = 1) (hz : constD tee.zero = some dz) (hzs : cellsD dz = some zs) (hzl : zs.length = 1)
    (hx : evO C env x = some (growD (n + J.length) cs)) (hy : evO C env y = some (.row H0.length 1)) (hH : H = H0 ++ [some ⟨[dx], e, 1, true, none⟩]) (hb : (cs.length + 1) * tee.bytes ≤ 140737488355328) (hm : cs.length + 1 ≤ 1099511627776) :
    OpH C ⟨dst, .call ⟨.builtin .append, #[x, y], #[T, T]⟩, ty, pos, aft, gd⟩ env H (fun d H' => ∃ J' : Heap, d = growD (n + J'.length) (cs ++ [dx]) ∧ H' = F (growT J' e (cs ++ [dx]))) (fun _ _ => False) := by
  obtain ⟨B, g1, g2, g3⟩ := g.prf
  obtain ⟨sk, sz, sb, sv⟩ := tee
  subst h1
  subst g3
  subst hH
  subst g1
  have hsrc : srcD (H0 ++ [some ⟨[dx], e, 1, true, none⟩]) (.row H0.length 1) = some (1, [dx]) := by simp [srcD]
  replace hm : cs.length + 1 ≤ maxLen := by rw [maxLen_eq]; omega
  cases cs with
  | nil =>
    subst g2
    have h := Zg3 (C := C) (dst := dst) (ty := ty) (pos := pos) (aft := aft) (gd := gd) (ty_slice ht) (ty_tic hee).1 (Nat.one_pos) hz hzs hzl hx hy hsrc rfl (by decide) (by simpa using hb) (by simpa using hm)
    refine OpH.mono ?_ (fun _ _ h => h) h
    rintro d H' ⟨rfl, rfl⟩
    refine ⟨J ++ [some ⟨[dx], e, 1, true, none⟩], ?_, ?_⟩
    · simp [growD, growT, Nat.add_assoc]
    simp [growT]
  | cons c cs =>
    subst g2
    have ho : (B ++ growT J e (c :: cs) ++ [some ⟨[dx], e, 1, true, none⟩])[B.length + J.length]? = some (some ⟨c :: cs, e, 1, true, none⟩) := by
      simp only [growT]
      rw [List.append_assoc, List.getElem?_append_right (by omega), Nat.add_sub_cancel_left, List.append_assoc, List.getElem?_append_right (by omega)]
      simp
    have h := ZiS (C := C) (dst := dst) (ty := ty) (pos := pos) (aft := aft) (gd := gd) (ty_slice ht) (ty_tic hee).1 (Nat.one_pos) hz hzs hzl (n := cs.length + 1) (m := 1) hx ho rfl rfl rfl hy hsrc rfl (by simpa using hb) (by simpa using hm)
    refine OpH.mono ?_ (fun _ _ h => h) h
    rintro d H' ⟨rfl, rfl⟩
    refine ⟨J ++ [none, some ⟨[dx], e, 1, true, none⟩], ?_, ?_⟩
    · simp [growD, growT, Nat.add_assoc]
    have e1 : ∀ r t : Option AObj, B ++ (J ++ [r]) ++ [t] = (B ++ J) ++ [r, t] := fun r t => by simp
    simp only [growT, List.cons_append]
    rw [e1, List.set_append_right _ _ (by simp), show B.length + J.length - (B ++ J).length = 0 by simp]
    simp
theorem y_grow [g : GrowL H0 n J e cs F] {E : Heap → List D} (hg : gOk ops.toList env gd = some true) (ht : C.ty T = some ⟨.slice e, S, b, zv⟩) (hee : C.ty e = some tee) (h1 : tee.size = 1) (hz : constD tee.zero = some dz) (hzs : cellsD dz = some zs) (hzl : zs.length = 1)
    (hx : evO C env x = some (growD (n + J.length) cs)) (hy : evO C env y = some (.row H0.length 1)) (hH : H = H0 ++ [some ⟨[dx], e, 1, true, none⟩]) (hb : (cs.length + 1) * tee.bytes ≤ 140737488355328) (hm : cs.length + 1 ≤ 1099511627776)
    [hp : ∀ J' : Heap, Put env dst (growD (n + J'.length) (cs ++ [dx])) (E J')] (hk : ∀ J' : Heap, AOps C Q ops rest k (E J') (F (growT J' e (cs ++ [dx]))) df) :
    AOps C Q ops (⟨dst, .call ⟨.builtin .append, #[x, y], #[T, T]⟩, ty, pos, aft, gd⟩ :: rest) k env H df :=
  AOps.opH hg (h_grow ht hee h1 hz hzs hzl hx hy hH hb hm) (fun d H' ⟨J', h1, h2⟩ => by subst h1; subst h2; have := (hp J').eq; simp only at this ⊢; rw [this]; exact hk J') (fun _ _ h => h.elim)
theorem yo_grow [g : GrowL H0 n J e cs F] {E : Heap → List D} (hg : gOk ops.toList env gd = some true) (ht : C.ty T = some ⟨.slice e, S, b, zv⟩) (hee : C.ty e = some tee) (h1 : tee.size = 1) (hz : constD tee.zero = some dz) (hzs : cellsD dz = some zs) (hzl : zs.length = 1)
    (hx : evO C env x = some (growD (n + J.length) cs)) (hy : evO C env y = some (.row H0.length 1)) (hH : H = H0 ++ [some ⟨[dx], e, 1, true, none⟩]) (hb : (cs.length + 1) * tee.bytes ≤ 140737488355328) (hm : cs.length + 1 ≤ 1099511627776)
    [hp : ∀ J' : Heap, Put env dst (growD (n + J'.length) (cs ++ [dx])) (E J')] (hk : ∀ J' : Heap, ARun C Q (.inRegion ops is :: k) (E J') (F (growT J' e (cs ++ [dx]))) df) :
    AOne C Q ops ⟨dst, .call ⟨.builtin .append, #[x, y], #[T, T]⟩, ty, pos, aft, gd⟩ is k env H df :=
  yo_opH hg (h_grow ht hee h1 hz hzs hzl hx hy hH hb hm) (fun d H' ⟨J', h1, h2⟩ => by subst h1; subst h2; have := (hp J').eq; simp only at this ⊢; rw [this]; exact hk J') (fun _ _ h => h.elim)
theorem ARun.growEnd [g : GrowL H n J e cs F] (t : Nat) (ht : env[t]? = some (growD (n + J.length) cs)) (hc : D.pure.pures cs = true) [hp : Put env (some t) (.sl cs.length cs) env'] (hk : ∀ J' : Heap, ARun C Q k env' (F J') df) : ARun C Q k env H df := by
  obtain ⟨B, g1, g2, g3⟩ := g.prf
  subst g3; subst g2; subst g1
  have hp := hp.eq
  subst hp
  have htl : t < env.length := (List.getElem?_eq_some_iff.1 ht).1
  cases cs with
  | nil =>
    have := hk J
    refine ⟨fun L0 w0 μ0 H0 w μ a hs hv hd he b cs hrd => this.out L0 w0 μ0 H0 w μ a hs ?_ hd he b cs hrd⟩
    refine VRs_mk (by rw [VRs_length hv]; simp [envPut]) fun j d v h1 h2 => ?_
    simp only [envPut, List.getElem?_set] at h1
    by_cases e : t = j
    · subst e
      simp only [htl, if_true] at h1
      injection h1 with h1; subst h1
      obtain ⟨v', h3, h4⟩ := VRs_get hv ht
      rw [h2] at h3; injection h3 with h3; subst h3
      exact Fz.ok (H := []) hs .nil (by simp) h4
    rw [if_neg e] at h1
    obtain ⟨v', h3, h4⟩ := VRs_get hv h1
    rw [h2] at h3; injection h3 with h3; subst h3; exact h4
  | cons c cs' =>
    have ho : (B ++ growT J e (c :: cs'))[B.length + J.length]? = some (some ⟨c :: cs', e, 1, true, none⟩) := by
      simp only [growT]
      rw [List.getElem?_append_right (by omega), Nat.add_sub_cancel_left, List.getElem?_append_right (by omega)]
      simp
    have hset : (B ++ growT J e (c :: cs')).set (B.length + J.length) (some ⟨c :: cs', e, 1, false, none⟩) = B ++ (J ++ [some ⟨c :: cs', e, 1, false, none⟩]) := by
      simp only [growT]
      rw [List.set_append_right _ _ (by omega), Nat.add_sub_cancel_left, List.set_append_right _ _ (by omega)]
      simp
    have hw : HWeak (B ++ growT J e (c :: cs')) (B ++ (J ++ [some ⟨c :: cs', e, 1, false, none⟩])) := by rw [← hset]; exact HWeak.one ho
    have := hk (J ++ [some ⟨c :: cs', e, 1, false, none⟩])
    refine ARun.weak hw ⟨fun L0 w0 μ0 H0 w μ a hs hv hd he b cs hrd => this.out L0 w0 μ0 H0 w μ a hs ?_ hd he b cs hrd⟩
    refine VRs_mk (by rw [VRs_length hv]; simp [envPut]) fun j d v h1 h2 => ?_
    simp only [envPut, List.getElem?_set] at h1
    by_cases e : t = j
    · subst e
      simp only [htl, if_true] at h1
      injection h1 with h1; subst h1
      obtain ⟨v', h3, h4⟩ := VRs_get hv ht
      rw [h2] at h3; injection h3 with h3; subst h3
      refine Fz.ok hs (.row ho hc) (fun i hi o ho' => ?_) h4
      simp only [List.mem_cons, List.not_mem_nil, or_false] at hi
      subst hi
      rw [ho] at ho'
      injection ho' with ho'; injection ho' with ho'; subst ho'
      rw [← hset]
      rw [List.getElem?_set_self (List.getElem?_eq_some_iff.1 ho).1]
    rw [if_neg e] at h1
    obtain ⟨v', h3, h4⟩ := VRs_get hv h1
    rw [h2] at h3; injection h3 with h3; subst h3; exact h4
theorem okCell_grow {B : Heap} {m : Nat} (hm : m = B.length + J.length) : okCell (B ++ growT J e cs) (growD m cs) = true := by
  subst hm
  cases cs with
  | nil => rfl
  | cons c cs =>
    have ho : (B ++ growT J e (c :: cs))[B.length + J.length]? = some (some ⟨c :: cs, e, 1, true, none⟩) := by
      simp only [growT]
      rw [List.getElem?_append_right (by omega), Nat.add_sub_cancel_left, List.getElem?_append_right (by omega)]
      simp
    simp only [okCell, growD, ho]; rfl
end
end Go.V
/- METHODS BOUND TO THEIR RECEIVERS. -/
set_option maxHeartbeats 1000000
namespace Go.V
open Go.RowKit Go.Proofs
section
variable {C : Ctx} {env : List D} {H : Heap} {dst : Option Tmp} {ty : TypeId} {pos : String} {aft : Array Edge} {gd : Option (Nat × Bool)} {x : Operand} {d : D}
end
section
variable {C : Ctx} {Q : Post} {k : List Item} {env env' : List D} {H : Heap} {df : List ADef} {ops : Array Oper} {rest : List Oper} {i : Nat} {is : List Nat} {d dx : D}
variable {dst : Option Tmp} {ty : TypeId} {pos : String} {aft : Array Edge} {gd : Option (Nat × Bool)} {x y : Operand} {T e : TypeId} {te tee : TE} {n b S : Nat} {J : Heap} {cs : List D} {F : Heap → Heap} {zv : Value} {dz : D} {zs : List D}
theorem ZmK [g : GrowL H n J e cs F] (ht : C.ty T = some ⟨.slice e, S, b, zv⟩) (hee : C.ty e = some tee) (h1 : tee.size = 1) (hz : constD tee.zero = some dz) (hzs : cellsD dz = some zs) (hzl : zs.length = 1)
    (hx : evO C env x = some (growD (n + J.length) cs)) (hy : evO C env y = some (.sl 1 [dx])) (hb : (cs.length + 1) * tee.bytes ≤ 140737488355328) (hm : cs.length + 1 ≤ 1099511627776) :
    OpH C ⟨dst, .call ⟨.builtin .append, #[x, y], #[T, T]⟩, ty, pos, aft, gd⟩ env H (fun d H' => ∃ J' : Heap, d = growD (n + J'.length) (cs ++ [dx]) ∧ H' = F (growT J' e (cs ++ [dx]))) (fun _ _ => False) := by
  obtain ⟨B, g1, g2, g3⟩ := g.prf
  obtain ⟨sk, sz, sb, sv⟩ := tee
  subst h1
  subst g3
  subst g1
  have hsrc : srcD H (.sl 1 [dx]) = some (1, [dx]) := rfl
  replace hm : cs.length + 1 ≤ maxLen := by rw [maxLen_eq]; omega
  cases cs with
  | nil =>
    subst g2
    have h := Zg3 (C := C) (dst := dst) (ty := ty) (pos := pos) (aft := aft) (gd := gd) (ty_slice ht) (ty_tic hee).1 (Nat.one_pos) hz hzs hzl hx hy hsrc rfl (by decide) (by simpa using hb) (by simpa using hm)
    refine OpH.mono ?_ (fun _ _ h => h) h
    rintro d H' ⟨rfl, rfl⟩
    refine ⟨J, ?_, ?_⟩
    · simp [growD, growT]
    simp [growT]
  | cons c cs =>
    subst g2
    have ho : (B ++ growT J e (c :: cs))[B.length + J.length]? = some (some ⟨c :: cs, e, 1, true, none⟩) := by
      simp only [growT]
      rw [List.getElem?_append_right (by omega), Nat.add_sub_cancel_left, List.getElem?_append_right (by omega)]
      simp
    have h := ZiS (C := C) (dst := dst) (ty := ty) (pos := pos) (aft := aft) (gd := gd) (ty_slice ht) (ty_tic hee).1 (Nat.one_pos) hz hzs hzl (n := cs.length + 1) (m := 1) hx ho rfl rfl rfl hy hsrc rfl (by simpa using hb) (by simpa using hm)
    refine OpH.mono ?_ (fun _ _ h => h) h
    rintro d H' ⟨rfl, rfl⟩
    refine ⟨J ++ [none], ?_, ?_⟩
    · simp [growD, growT, Nat.add_assoc]
    have e1 : ∀ r : Option AObj, B ++ (J ++ [r]) = (B ++ J) ++ [r] := fun r => by simp
    simp only [growT, List.cons_append]
    rw [e1, List.set_append_right _ _ (by simp), show B.length + J.length - (B ++ J).length = 0 by simp]
    simp
theorem ZmL [g : GrowL H n J e cs F] {E : Heap → List D} (hg : gOk ops.toList env gd = some true) (ht : C.ty T = some ⟨.slice e, S, b, zv⟩) (hee : C.ty e = some tee) (h1 : tee.size = 1) (hz : constD tee.zero = some dz) (hzs : cellsD dz = some zs) (hzl : zs.length = 1)
    (hx : evO C env x = some (growD (n + J.length) cs)) (hy : evO C env y = some (.sl 1 [dx])) (hb : (cs.length + 1) * tee.bytes ≤ 140737488355328) (hm : cs.length + 1 ≤ 1099511627776)
    [hp : ∀ J' : Heap, Put env dst (growD (n + J'.length) (cs ++ [dx])) (E J')] (hk : ∀ J' : Heap, AOps C Q ops rest k (E J') (F (growT J' e (cs ++ [dx]))) df) :
    AOps C Q ops (⟨dst, .call ⟨.builtin .append, #[x, y], #[T, T]⟩, ty, pos, aft, gd⟩ :: rest) k env H df :=
  AOps.opH hg (ZmK ht hee h1 hz hzs hzl hx hy hb hm) (fun d H' ⟨J', h1, h2⟩ => by subst h1; subst h2; have := (hp J').eq; simp only at this ⊢; rw [this]; exact hk J') (fun _ _ h => h.elim)
end
end Go.V
/- AN ASSERTION THAT FAILS; reading a value of another type. -/
set_option maxHeartbeats 1000000
namespace Go.V
open Go.RowKit Go.Proofs
section
variable {C : Ctx} {env : List D} {H : Heap} {dst : Option Tmp} {ty : TypeId} {pos : String} {aft : Array Edge} {gd : Option (Nat × Bool)} {x : Operand} {T T' U xT : TypeId} {d dz : D} {te : TE}
theorem Zlj (ht : C.ty T = some te) (hc : conK te.k = true) (hz : constD te.zero = some dz) (hx : evO C env x = some (.iface T' d)) (hT : Nat.beq T' T = false) : OpQ C ⟨dst, .typeAssert x xT T true, ty, pos, aft, gd⟩ env H (.tup [dz, .bool false]) :=
  OpQ.of_run fun L w μ a he => by
    have ex := he _ _ hx
    simp only [VR] at ex
    obtain ⟨u, ex, hu⟩ := ex
    have hz' : VR w L μ H dz te.zero := constD_ok hz
    refine ⟨.tuple #[te.zero, .bool false], ?_, by simp only [VR, VRs]; exact ⟨[te.zero, .bool false], rfl, _, _, rfl, hz', _, _, rfl, rfl, rfl⟩⟩
    have hun := (ty_tic ht).1.run_un w
    have hzr := (ty_tic ht).1.run_zero w
    have hk := (C.ok T te ht).2
    have hTT : T' ≠ T := fun e => by rw [e] at hT; exact absurd (Nat.beq_refl T) (by rw [hT]; decide)
    have hne : ∀ ms, tkDesc C.P T ≠ .interface ms := by
      intro ms e
      have hu2 := (ty_tic ht).1.un
      rw [e] at hu2
      cases hkk : te.k <;> rw [hkk] at hk hc <;> simp only [TKok] at hk <;> first | (cases hc; done) | (rw [hu2] at hk; cases hk; done) | (obtain ⟨_, h1, _⟩ := hk; rw [hu2] at h1; cases h1; done) | (obtain ⟨_, h1⟩ := hk; rw [hu2] at h1; cases h1)
    simp only [execOp, ex, Instr.typeAssert, Sem.run_bind, hun, Result.andThen_ok]
    generalize tkDesc C.P T = dsc at hne
    cases dsc <;> first | (exact (hne _ rfl).elim) | simp [hTT, hzr]
end
instance GrowL.app {B J : Heap} {e : TypeId} {cs : List D} : GrowL (B ++ growT J e cs) B.length J e cs (fun X => B ++ X) := ⟨B, rfl, rfl, rfl⟩
end Go.V
set_option maxHeartbeats 4000000
set_option maxRecDepth 100000
set_option synthInstance.maxSize 100000
set_option synthInstance.maxHeartbeats 2000000
namespace Go.V
open Go.RowKit Go.Proofs
abbrev intO (n : Int) : Option AObj := some ⟨[.int .i64 n], t_int, 1, true, none⟩
abbrev wrongW (n : Int) : D := .iface 104 (.agg [.int .i64 n])
theorem dct_ret (H : Heap) (i j : Nat) : DC C Zbq H [.ptr i 0, .ptr j 0] .returning (fun m' H' => m' = .returning ∧ H' = H) := by
  refine DC.of_run1 ZbC Zck rfl Zcl (by rw [Zcm]) (fun _ h => by cases h) (by simp only [List.length_cons, List.length_nil, Nat.reduceAdd, Nat.reduceSub, List.replicate_succ, List.replicate_zero, List.cons_append, List.nil_append, recD, envPut, List.set_cons_succ, List.set_cons_zero]; exact rfl) ?_
  refine ARun.block (ARun.seq (ARun.region ?_))
  refine y_op rfl (ZjW (by kernel_rfl) rfl) ?_
  refine AOps.nil ?_
  refine ARun.condT rfl ?_
  refine ARun.region ?_; refine zza ?_; refine AOps.nil (ARun.inBlock ?_)
  refine ARun.nil ?_
  exact ⟨rfl, rfl, rfl⟩
theorem set_ne {α : Type} {H : List α} {i j : Nat} {x : α} (h : i ≠ j) : (H.set i x)[j]? = H[j]? := by
  rw [List.getElem?_set_ne h]
theorem dct_fail (H : Heap) (i j : Nat) (e0 n0 e : Int) (h : H[i]? = some (errO e0)) (h2 : H[j]? = some (intO n0)) (hij : i ≠ j) : DC C Zbq H [.ptr i 0, .ptr j 0] (.panicking (failW e)) (fun m' H' => m' = .recovered (failW e) ∧ H' = ((H.set i (errO e)).set j (intO 0) : Heap)) := by
  have h3 : (H.set i (errO e))[j]? = some (intO n0) := by rw [set_ne hij]; exact h2
  refine DC.of_run1 ZbC Zck rfl Zcl (by rw [Zcm]) (fun _ h => by cases h) (by simp only [List.length_cons, List.length_nil, Nat.reduceAdd, Nat.reduceSub, List.replicate_succ, List.replicate_zero, List.cons_append, List.nil_append, recD, envPut, List.set_cons_succ, List.set_cons_zero]; exact rfl) ?_
  refine ARun.block (ARun.seq (ARun.region ?_))
  refine y_op rfl (q_ifEq (by kernel_rfl) rfl) ?_
  refine AOps.nil ?_
  refine ARun.condF rfl ?_
  refine ARun.seq (ARun.region ?_)
  refine y_op rfl (Zlj rfl rfl rfl rfl rfl) ?_
  refine zze ?_; refine zze ?_; refine AOps.nil ?_
  refine ARun.condF rfl ?_
  refine ARun.seq (ARun.region ?_)
  refine y_op rfl (Zcg rfl rfl rfl) ?_
  refine zze ?_; refine zze ?_; refine AOps.nil ?_
  refine ARun.condT rfl ?_
  refine ARun.seq (ARun.region ?_)
  refine ZaX rfl rfl rfl rfl rfl rfl rfl rfl rfl rfl rfl ?_
  refine AOps.nil (ARun.region ?_); refine zzm ?_; refine zzm ?_; refine zzf ?_; refine zzl ?_
  refine y_op rfl (q_nil rfl rfl) ?_
  refine y_new rfl (Zad rfl rfl rfl rfl h rfl (Nat.le_of_ble_eq_true rfl) rfl) ?_
  refine y_op rfl (q_nil rfl rfl) ?_
  refine y_new rfl (Zad rfl rfl rfl rfl h3 rfl (Nat.le_of_ble_eq_true rfl) rfl) ?_
  refine AOps.nil (ARun.inBlock ?_)
  refine ARun.nil ?_
  exact ⟨rfl, rfl, rfl⟩
theorem dct_wrong (H : Heap) (i j : Nat) (e0 n0 n : Int) (h : H[i]? = some (errO e0)) (h2 : H[j]? = some (intO n0)) (hij : i ≠ j) : DC C Zbq H [.ptr i 0, .ptr j 0] (.panicking (wrongW n)) (fun m' H' => m' = .recovered (wrongW n) ∧ H' = ((H.set i (errO 6)).set j (intO n) : Heap)) := by
  have h3 : (H.set i (errO 6))[j]? = some (intO n0) := by rw [set_ne hij]; exact h2
  refine DC.of_run1 ZbC Zck rfl Zcl (by rw [Zcm]) (fun _ h => by cases h) (by simp only [List.length_cons, List.length_nil, Nat.reduceAdd, Nat.reduceSub, List.replicate_succ, List.replicate_zero, List.cons_append, List.nil_append, recD, envPut, List.set_cons_succ, List.set_cons_zero]; exact rfl) ?_
  refine ARun.block (ARun.seq (ARun.region ?_))
  refine y_op rfl (q_ifEq (by kernel_rfl) rfl) ?_
  refine AOps.nil ?_
  refine ARun.condF rfl ?_
  refine ARun.seq (ARun.region ?_)
  refine y_op rfl (Zcg rfl rfl rfl) ?_
  refine zze ?_; refine zze ?_; refine AOps.nil ?_
  refine ARun.condT rfl ?_
  refine ARun.seq (ARun.region ?_)
  refine ZaX rfl rfl rfl rfl rfl rfl rfl rfl rfl rfl rfl ?_
  refine AOps.nil ?_
  refine ARun.drawnG (n := 6) (fun S : Nat → Bool => bif S 5 then H.set i (errO 6) else H) [] (fun _ => False) (sk := []) mixC rfl rfl (by kernel_rfl) rfl (by kernel_rfl) rfl (fun _ _ _ h => h.elim) ?_
  refine DChG.op rfl (fun _ => q_move rfl) (fun _ => rfl) rfl rfl ?_
  refine DChG.op rfl (fun _ => q_move rfl) (fun _ => rfl) rfl rfl ?_
  refine DChG.op rfl (fun _ => q_fldS rfl rfl rfl (by decide)) (fun _ => rfl) rfl rfl ?_
  refine DChG.op rfl (fun _ => q_load rfl rfl rfl rfl) (fun _ => rfl) rfl rfl ?_
  refine DChG.op rfl (fun _ => q_nil rfl rfl) (fun _ => rfl) rfl rfl ?_
  refine DChG.stC rfl (fun S hn hd hc => OpN.both (H1 := bif false then H.set i (errO 6) else H) (H3 := bif true then H.set i (errO 6) else H) (by simp only [hn]) rfl (Zad rfl rfl rfl rfl h rfl (Nat.le_of_ble_eq_true rfl) rfl)) rfl rfl ?_
  refine .nil (fun hG => AOps.fin (n := List.length (H.set i (errO 6))) (as' := []) (H' := H.set i (errO 6)) rfl rfl (List.append_nil _) ?_)
  refine y_op rfl (q_nil rfl rfl) ?_
  refine y_new rfl (Zad rfl rfl rfl rfl h3 rfl (Nat.le_of_ble_eq_true rfl) rfl) ?_
  refine AOps.nil (ARun.inBlock ?_)
  refine ARun.nil ?_
  exact ⟨rfl, rfl, rfl⟩
end Go.V
set_option synthInstance.maxSize 100000
set_option synthInstance.maxHeartbeats 2000000
namespace Go.V
open Go.RowKit Go.Proofs
def valI (d : Bool × List Nat) : Int := sgnd d.1 (val d.2)
theorem okI_int {d : Bool × List Nat} (hu : U32 d.2) (h : okI d = true) : ∃ z, d = (decide (z < 0), lim z.natAbs) ∧ fitZ z := by
  obtain ⟨b, xs⟩ := d
  simp only [okI, Bool.and_eq_true, Bool.or_eq_true, Bool.not_eq_true'] at h
  obtain ⟨a, ha, hl⟩ := okNat_lim hu h.1
  simp only at ha
  subst ha
  refine ⟨sgnd b a, ?_, ?_⟩
  · rw [sgnd_abs, sgnd_neg]
    congr 1
    rcases h.2 with h | h
    · rw [h]; rfl
    have : 0 < a := Nat.pos_of_ne_zero (ln_pos.1 (of_decide_eq_true h))
    rw [decide_eq_true this, Bool.and_true]
  rw [fitZ, sgnd_abs]; exact hl
theorem valI_int (z : Int) : valI (decide (z < 0), lim z.natAbs) = z := by
  unfold valI
  simp only [val_lim]
  by_cases h : z < 0
  · simp only [sgnd, decide_eq_true h, cond_true]; omega
  simp only [sgnd, decide_eq_false h, cond_false]; omega
abbrev capZ (z : Int) : D := .sptr [.bool (decide (z < 0)), numD z.natAbs]
theorem fitZ_neg {z : Int} (h : fitZ z) : fitZ (-z) := by unfold fitZ at *; rw [Int.natAbs_neg]; exact h
theorem okI2 {d1 d2 : Bool × List Nat} (h1 : U32 d1.2) (h2 : U32 d2.2) (h : [d1, d2].all okI = true) : ∃ x y, d1 = (decide (x < 0), lim x.natAbs) ∧ fitZ x ∧ d2 = (decide (y < 0), lim y.natAbs) ∧ fitZ y := by
  simp only [List.all_cons, List.all_nil, Bool.and_true, Bool.and_eq_true] at h
  obtain ⟨x, e1, f1⟩ := okI_int h1 h.1
  obtain ⟨y, e2, f2⟩ := okI_int h2 h.2
  exact ⟨x, y, e1, f1, e2, f2⟩
end Go.V
set_option synthInstance.maxSize 100000
set_option synthInstance.maxHeartbeats 2000000
namespace Go.V
open Go.RowKit Go.Proofs
abbrev kkeys : List D := [.int .i64 1, .int .i64 2, .int .i64 3, .int .i64 4]
abbrev kvals : List D := [.agg [.clos ZbS []], .agg [.clos ZbT []], .agg [.clos ZaG []], .agg [.clos ZbU []]]
theorem Zh5 : PC C Ziy [] (fun o => o = .ret (.mapv kkeys kvals)) := by
  refine PC.rn ZdH Zht Zhu (rs := [.tmp 0]) (by rw [Zhv]) ?_
  refine ARun.seq (ARun.region ?_)
  refine y_op rfl (Zku) ?_
  refine AOps.nil (ARun.seq (ARun.region ?_))
  refine y_new rfl (ZlT (kt := 3) (et := 81) (by kernel_rfl) (.inl rfl)) ?_
  refine y_op rfl (Zap rfl rfl rfl rfl rfl) ?_
  refine y_new rfl (Zcp (kt := 3) (et := 81) (.inl rfl) (by kernel_rfl) (by kernel_rfl) rfl rfl rfl rfl rfl) ?_
  refine y_op rfl (Zap rfl rfl rfl rfl rfl) ?_
  refine y_new rfl (Zcp (kt := 3) (et := 81) (.inl rfl) (by kernel_rfl) (by kernel_rfl) rfl rfl rfl rfl rfl) ?_
  refine y_op rfl (Zap rfl rfl rfl rfl rfl) ?_
  refine y_new rfl (Zcp (kt := 3) (et := 81) (.inl rfl) (by kernel_rfl) (by kernel_rfl) rfl rfl rfl rfl rfl) ?_
  refine y_op rfl (Zap rfl rfl rfl rfl rfl) ?_
  refine y_new rfl (Zcp (kt := 3) (et := 81) (.inl rfl) (by kernel_rfl) (by kernel_rfl) rfl rfl rfl rfl rfl) ?_
  refine zzm ?_; refine zza ?_; refine AOps.nil ?_
  have hz : Fz [mapO (kkeys.zip kvals)] (.mapp 0) (.mapv kkeys kvals) [0] := Fz.map (es := kkeys.zip kvals) rfl rfl rfl rfl
  refine ARun.ret ?_
  refine ⟨_, _, _, .tmp rfl .nil, .cons hz .nil, rfl, ?_⟩
  rfl
def kindF (how : Int) : Option FuncId :=
  if how = 1 then some ZbS else if how = 2 then some ZbT else if how = 3 then some ZaG else if how = 4 then some ZbU else none
theorem find_kind (how : Int) : findI .i64 how (kkeys.zip kvals) = some ((kindF how).map fun f => .agg [.clos f []]) := by
  unfold kindF
  by_cases h1 : how = 1
  · subst h1; rfl
  by_cases h2 : how = 2
  · subst h2; rfl
  by_cases h3 : how = 3
  · subst h3; rfl
  by_cases h4 : how = 4
  · subst h4; rfl
  have e : ∀ k : Int, how ≠ k → (how == k) = false := fun k h => beq_eq_false_iff_ne.2 h
  simp only [kkeys, kvals, List.zip_cons_cons, List.zip_nil_right, findI, e 1 h1, e 2 h2, e 3 h3, e 4 h4, decide_true, cond_true, cond_false, if_neg h1, if_neg h2, if_neg h3, if_neg h4, Option.map_none]
def awayZ (how : Int) (q r a b : Int) : Bool :=
  if how = 2 then !(decide (a < 0) == decide (b < 0)) else if how = 3 then decide (a < 0) else if how = 4 then decide (b.natAbs < 2 * r.natAbs) || (decide (2 * r.natAbs = b.natAbs) && decide (q.natAbs % 2 = 1)) else false
theorem ZmM (q r a b : Int) : PC C ZbS [intD q, intD r, intD a, intD b] (fun o => o = .ret (.bool (awayZ 1 q r a b))) := by
  refine PC.rn Zcv Zfw Zfx (rs := [.tmp 8]) (by rw [Zfy]) ?_
  refine ARun.seq (ARun.region ?_); refine zzb ?_; refine zzb ?_; refine zzb ?_; refine zzb ?_; refine zza ?_; refine AOps.nil (ARun.seq (ARun.region ?_)); refine zza ?_; refine AOps.nil ?_
  refine ARun.ret ?_
  refine ⟨_, _, _, .tmp rfl .nil, .cons (.same _) .nil, rfl, ?_⟩
  rfl
theorem ZmN (q r a b : Int) : PC C ZbT [intD q, intD r, intD a, intD b] (fun o => o = .ret (.bool (awayZ 2 q r a b))) := by
  refine PC.rn Zcw Zfz ZfA (rs := [.tmp 8]) (by rw [ZfB]) ?_
  refine ARun.seq (ARun.region ?_); refine zzb ?_; refine zzb ?_; refine zzb ?_; refine zzb ?_; refine zza ?_; refine AOps.nil (ARun.seq (ARun.region ?_)); refine zzf ?_; refine zzl ?_; refine zzf ?_; refine zzl ?_
  refine y_op rfl (Zbd rfl rfl rfl) ?_
  refine zza ?_; refine AOps.nil ?_
  refine ARun.ret ?_
  refine ⟨_, _, _, .tmp rfl .nil, .cons (.same _) .nil, rfl, ?_⟩
  rfl
theorem ZlZ (q r a b : Int) : PC C ZaG [intD q, intD r, intD a, intD b] (fun o => o = .ret (.bool (awayZ 3 q r a b))) := by
  refine PC.rn Zcx ZfC ZfD (rs := [.tmp 8]) (by rw [ZfE]) ?_
  refine ARun.seq (ARun.region ?_); refine zzb ?_; refine zzb ?_; refine zzb ?_; refine zzb ?_; refine zza ?_; refine AOps.nil (ARun.seq (ARun.region ?_)); refine zzf ?_; refine zzl ?_; refine zza ?_; refine AOps.nil ?_
  refine ARun.ret ?_
  refine ⟨_, _, _, .tmp rfl .nil, .cons (.same _) .nil, rfl, ?_⟩
  rfl
end Go.V
