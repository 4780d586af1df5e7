/- A part of the proof: abstract values, rules for the steps of the program's form, and contracts of its functions, each proved; no condition. -/
import Derived.Test.YthankfodgdfgaaaDoorA05
import Derived.DeepKeys
import Derived.ProofKit
import Derived.OpenShut
import Derived.LaidMore
import Derived.Lib.Builder
import Derived.Lib.UnsafeStr
import Derived.Laws.Externs
import Derived.Laws.Pointers
set_option linter.unusedVariables false
set_option linter.unusedSimpArgs false
set_option linter.unnecessarySimpa false
/- m[k] of a map that is written no longer. -/
namespace Go.V
open Go.RowKit
section
variable {C : Ctx} {env : List D} {H H' : Heap} {dst : Option Tmp} {ty : TypeId} {pos : String} {aft : Array Edge} {gd : Option (Nat × Bool)} {x y z : Operand} {d : D} {T kt et : TypeId} {te : TE}
theorem Zfd {k : IntKind} {n : Int} {ks us : List D} {r : Option D} {dz : D} (hm : C.P.underlying T = some (.map kt et)) (hk : C.P.underlying kt = some (.int k)) (hte : C.ty et = some te) (hdz : constD te.zero = some dz) (hx : evO C env x = some (.mapv ks us)) (hy : evO C env y = some (.int k n)) (hl : ks.length = us.length) (hf : findI k n (ks.zip us) = some r) (hd : keysI k ks = true := by rfl) :
    OpQ C ⟨dst, .lookup T x y false, ty, pos, aft, gd⟩ env H (r.getD dz) :=
  OpQ.of_runS fun L0 w μ a hs he => by
    have ex := he _ _ hx
    have ey := he _ _ hy
    simp only [VR] at ex ey
    obtain ⟨b, ea, clock, ex, _, _, k1, l, hp, k2, k3⟩ := ex
    have hfn := findNow_perm hl hf k2 k3 hp hd
    have hg : (getObj b).run C.P w = .ok (.map ea clock) w := by simp [getObj, Sem.run, k1]
    cases r with
    | none =>
      simp only at hfn
      refine ⟨te.zero, ?_, constD_ok hdz⟩
      simp only [execOp, ex, ey, Instr.lookup, Sem.run_bind, run_underlying hm, Result.andThen_ok, hg, Sem.run_pure, run_checkKey_int hk, run_findKeyV hk hfn, (ty_tic hte).1.run_zero, Bool.false_eq_true, if_false]
    | some d =>
      simp only at hfn
      obtain ⟨j, v, hfn, hvd⟩ := hfn
      refine ⟨v, ?_, VR.lift hvd⟩
      simp only [execOp, ex, ey, Instr.lookup, Sem.run_bind, run_underlying hm, Result.andThen_ok, hg, Sem.run_pure, run_checkKey_int hk, run_findKeyV hk hfn, Bool.false_eq_true, if_false]
end
end Go.V
/- STATEMENTS THAT DRAW THEIR ORDER, order by order. -/
namespace Go.V
open Go.RowKit
def orders (l : List Oper) (m : Nat) : Nat → List Nat → List (List Nat)
  | 0, _ => [List.range' m (l.length - m)]
  | f + 1, und => (und.filter fun i => und.all fun j => !hasE l i j).flatMap fun i => (orders l m f (und.erase i)).map (i :: ·)
section
variable {C : Ctx} {Q : Post} {k : List Item} {env env' : List D} {H H' : Heap} {df : List ADef} {l : List Oper} {ops : Array Oper} {o : Oper} {i : Nat} {is : List Nat} {d : D}
structure AOne (C : Ctx) (Q : Post) (ops : Array Oper) (o : Oper) (is : List Nat) (k : List Item) (env : List D) (H : Heap) (df : List ADef) : Prop where
  mk :: (out : ∀ i : Nat, ops[i]? = some o → ARun C Q (.inRegion ops (i :: is) :: k) env H df)
class LAt (l : List Oper) (i : Nat) (o : outParam Oper) : Prop where
  eq : l[i]? = some o
instance LAt.zero {a : Oper} {l : List Oper} : LAt (a :: l) 0 a := ⟨rfl⟩
instance LAt.succ {a o : Oper} {l : List Oper} {n : Nat} [h : LAt l n o] : LAt (a :: l) (n + 1) o := ⟨by rw [List.getElem?_cons_succ]; exact h.eq⟩
end
end Go.V
/- SLICES THAT GROW BY APPEND, where what became of the old rows is forgotten. -/
namespace Go.V
open Go.RowKit
def growT (J : Heap) (e : TypeId) : List D → Heap
  | [] => J
  | c :: cs => J ++ [some ⟨c :: cs, e, 1, true, none⟩]
class GrowL (H : Heap) (n : outParam Nat) (J : outParam Heap) (e : outParam TypeId) (cs : outParam (List D)) (F : outParam (Heap → Heap)) : Prop where
  prf : ∃ B : Heap, B.length = n ∧ H = B ++ growT J e cs ∧ F = fun X => B ++ X
instance GrowL.base {J : Heap} {e : TypeId} {cs : List D} : GrowL (growT J e cs) 0 J e cs (fun X => X) := ⟨[], rfl, rfl, rfl⟩
instance GrowL.cons {l : Heap} {b : Option AObj} {n : Nat} {J : Heap} {e : TypeId} {cs : List D} {F : Heap → Heap} [g : GrowL l n J e cs F] : GrowL (b :: l) (n + 1) J e cs (fun X => b :: F X) := by
  obtain ⟨B, h1, h2, h3⟩ := g.prf
  exact ⟨b :: B, by simp [h1], by rw [h2]; rfl, by rw [h3]; rfl⟩
section
variable {C : Ctx} {Q : Post} {k : List Item} {env env' : List D} {H H0 : Heap} {df : List ADef} {ops : Array Oper} {rest : List Oper} {i : Nat} {is : List Nat} {d dx : D}
variable {dst : Option Tmp} {ty : TypeId} {pos : String} {aft : Array Edge} {gd : Option (Nat × Bool)} {x y : Operand} {T e : TypeId} {te tee : TE} {n b S : Nat} {J : Heap} {cs : List D} {F : Heap → Heap} {zv : Value} {dz : D} {zs : List D}
end
end Go.V
/- METHODS BOUND TO THEIR RECEIVERS. -/
set_option maxHeartbeats 1000000
namespace Go.V
open Go.RowKit Go.Proofs
section
variable {C : Ctx} {env : List D} {H : Heap} {dst : Option Tmp} {ty : TypeId} {pos : String} {aft : Array Edge} {gd : Option (Nat × Bool)} {x : Operand} {d : D}
end
section
variable {C : Ctx} {Q : Post} {k : List Item} {env env' : List D} {H : Heap} {df : List ADef} {ops : Array Oper} {rest : List Oper} {i : Nat} {is : List Nat} {d dx : D}
variable {dst : Option Tmp} {ty : TypeId} {pos : String} {aft : Array Edge} {gd : Option (Nat × Bool)} {x y : Operand} {T e : TypeId} {te tee : TE} {n b S : Nat} {J : Heap} {cs : List D} {F : Heap → Heap} {zv : Value} {dz : D} {zs : List D}
end
end Go.V
/- AN ASSERTION THAT FAILS; reading a value of another type. -/
set_option maxHeartbeats 1000000
namespace Go.V
open Go.RowKit Go.Proofs
section
variable {C : Ctx} {env : List D} {H : Heap} {dst : Option Tmp} {ty : TypeId} {pos : String} {aft : Array Edge} {gd : Option (Nat × Bool)} {x : Operand} {T T' U xT : TypeId} {d dz : D} {te : TE}
end
instance GrowL.app {B J : Heap} {e : TypeId} {cs : List D} : GrowL (B ++ growT J e cs) B.length J e cs (fun X => B ++ X) := ⟨B, rfl, rfl, rfl⟩
end Go.V
/- THE LENGTH OF A SLICE THAT GROWS; a statement that ends in one of several ways, with its heap. -/
namespace Go.V
open Go.RowKit
section
variable {C : Ctx} {Q : Post} {k : List Item} {env : List D} {H : Heap} {df : List ADef} {n S b : Nat} {J : Heap} {cs : List D} {F : Heap → Heap} {zv : Value} {x : Operand} {T e e' : TypeId} {dst : Option Tmp} {ty : TypeId} {pos : String} {aft : Array Edge} {gd : Option (Nat × Bool)}
end
theorem ARun.joinH {C : Ctx} {Q : Post} {k : List Item} {env : List D} {H : Heap} {df : List ADef} {S : Type} {c : Code} {E : S → List D} (cs : S → List (Nat × D)) (HS : S → Heap) (J : S → Prop) [hE : ∀ s, Puts env (cs s) (E s)] (h1 : (∀ s, J s → ARun C Q k (E s) (HS s) df) → ARun C Q (.code c :: k) env H df) (h2 : ∀ s, J s → ARun C Q k (E s) (HS s) df) : ARun C Q (.code c :: k) env H df := h1 h2
end Go.V
/- TABLES OF THE PROGRAM; an element of an array of structs; equality of structs. -/
namespace Go.V
open Go.RowKit
theorem HC.gl {P : Program} {gl : List (Nat × List D)} {ty : TypeId → Option TE} {ok : ∀ t te, ty t = some te → TEok P t te} {f : FuncId} {H : Heap} {args : List D} {R : Out → Heap → Prop} (h : HC ⟨P, [], ty, ok⟩ f H args R) : HC ⟨P, gl, ty, ok⟩ f H args R := by
  refine ⟨h.1, fun L0 w μ vs hs ha => ?_⟩
  refine (h.2 L0 w μ vs ⟨hs.len, hs.obj, hs.inj, hs.own, hs.lim, fun g cs hg => by cases hg⟩ ha).mono fun e w' hfin => ?_
  obtain ⟨o, H1, μ1, h1, s1, h3, h4⟩ := hfin
  refine ⟨o, H1, μ1, h1, ⟨s1.len, s1.obj, s1.inj, s1.own, s1.lim, fun g cs hg => ?_⟩, h3, h4⟩
  obtain ⟨g1, g2, g3⟩ := hs.glob g cs hg
  have st := h4.step L0
  exact ⟨Nat.lt_of_lt_of_le g1 st.size, st.keep g g1 g2, GR.step st.pure g1 g2 g3⟩
theorem PC.gl {P : Program} {gl : List (Nat × List D)} {ty : TypeId → Option TE} {ok : ∀ t te, ty t = some te → TEok P t te} {f : FuncId} {args : List D} {r : Out → Prop} (h : PC ⟨P, [], ty, ok⟩ f args r) : PC ⟨P, gl, ty, ok⟩ f args r := fun H => (h H).gl
section
variable {C : Ctx} {env : List D} {H : Heap} {dst : Option Tmp} {ty : TypeId} {pos : String} {aft : Array Edge} {gd : Option (Nat × Bool)} {x y : Operand} {T T' e : TypeId}
def valD : D → Option Value
  | .int k n => some (.int k n)
  | .bool b => some (.bool b)
  | .str s => some (.string s)
  | _ => none
def valsD : List D → Option (List Value)
  | [] => some []
  | d :: ds => match valD d, valsD ds with
    | some v, some vs => some (v :: vs)
    | _, _ => none
theorem valD_ok {w : World} {L : Nat → Prop} {μ : List Nat} {H : Heap} {d : D} {v u : Value} (h : valD d = some v) (hv : VR w L μ H d u) : u = v := by
  cases d <;> simp only [valD] at h <;> first | (injection h with h; subst h; simpa only [VR] using hv) | cases h
theorem valsD_ok {w : World} {L : Nat → Prop} {μ : List Nat} {H : Heap} : ∀ {ds : List D} {vs us : List Value}, valsD ds = some vs → VRs w L μ H ds us → us = vs
  | [], vs, us, h, hv => by simp only [valsD] at h; injection h with h; subst h; simpa only [VRs] using hv
  | d :: ds, vs, us, h, hv => by
    simp only [valsD] at h
    split at h
    · rename_i v vs' h1 h2
      injection h with h; subst h
      simp only [VRs] at hv
      obtain ⟨u, us', rfl, k1, k2⟩ := hv
      rw [valD_ok h1 k1, valsD_ok h2 k2]
    cases h
theorem run_eqGuard_agg {P : Program} {w : World} {op : BinOp} {t : TypeId} {xs ys : Array Value} (h : P.eqGuardType P.depth t = false) : (eqGuard op t x y (.agg xs) (.agg ys)).run P w = .ok () w := by
  unfold eqGuard
  simp only [Sem.run_bind]
  split <;> simp [h]
theorem Zfr {ds es : List D} {vs ws : List Value} {m f : Nat} {la lb : List Lit} {r : Bool} (hk : C.P.keyTypeAt m T = true) (hm : m ≤ 10000) (hg : C.P.eqGuardType C.P.depth T = false) (hx : evO C env x = some (.agg ds)) (hy : evO C env y = some (.agg es)) (hvs : valsD ds = some vs) (hws : valsD es = some ws)
    (fx : (Value.agg vs.toArray).formed C.P T = true) (fy : (Value.agg ws.toArray).formed C.P T = true) (lx : C.P.keyLits f T vs = some la) (ly : C.P.keyLits f T ws = some lb) (hr : r = true ↔ la = lb) : OpQ C ⟨dst, .binOp .eql T x y T', ty, pos, aft, gd⟩ env H (.bool r) :=
  OpQ.of_run fun L w μ a he => by
    have ex := he _ _ hx
    have ey := he _ _ hy
    simp only [VR] at ex ey
    obtain ⟨us, ex, hu⟩ := ex
    obtain ⟨us', ey, hu'⟩ := ey
    rw [valsD_ok hvs hu] at ex
    rw [valsD_ok hws hu'] at ey
    obtain ⟨r', hr', hiff⟩ := run_equalIn_deep (P := C.P) (10000 - m) m T hk w f f (.agg vs.toArray) (.agg ws.toArray) la lb fx fy (by simpa [Value.cells] using lx) (by simpa [Value.cells] using ly)
    rw [show 10000 - m + m = 10000 by omega] at hr'
    obtain rfl : r' = r := by rw [Bool.eq_iff_iff, hiff, hr]
    refine ⟨.bool r', ?_, by simp only [VR]⟩
    have hr' : (Op.equal T (.agg vs.toArray) (.agg ws.toArray)).run C.P w = .ok r' w := hr'
    simp only [execOp, ex, ey, Sem.run_bind, run_eqGuard_agg hg, Result.andThen_ok]
    simp only [binOp, Sem.run_bind, hr', Result.andThen_ok, Sem.run_pure]
end
end Go.V
/- TABLES THAT LIE: a variable's cells, out of what it is said to hold. -/
namespace Go.V
open Go.RowKit Go.ChangeShapes Go.WideShapes
def litV : Lit → Option Value
  | .int k n => some (.int k n)
  | .bool b => some (.bool b)
  | .string l => some (.string ⟨l.toArray⟩)
  | _ => none
mutual
def flatV {H : Type} : DataW H → Option (List Value)
  | .lit l => match litV l with
    | some v => some [v]
    | none => none
  | .agg ds => flatVs ds
  | _ => none
def flatVs {H : Type} : List (DataW H) → Option (List Value)
  | [] => some []
  | d :: ds => match flatV d, flatVs ds with
    | some a, some b => some (a ++ b)
    | _, _ => none
end
def contig (P : Program) : List Field → Nat → Nat → Bool
  | [], off, tot => off == tot
  | f :: fs, off, tot => f.offset == off && contig P fs (off + P.cellsOf f.type) tot
def flatT (P : Program) : Nat → TypeId → Bool
  | 0, _ => false
  | m + 1, t => match P.underlying t with
    | some .bool => true
    | some (.int _) => true
    | some .string => true
    | some (.array n e) => flatT P m e && P.cellsOf t == n * P.cellsOf e
    | some (.struct fs) => fs.toList.all (fun f => flatT P m f.type) && contig P fs.toList 0 (P.cellsOf t)
    | _ => false
section
variable {H : Type} {enc : TypeId × Value → H} {P : Program} {w : World} {base : Nat} {sp : Nat → Bool} {held : Bool}
theorem flat_struct {fuel m : Nat} (IH : ∀ (t : TypeId) (cs : List Value) (x : DataW H × List MemPlace), flatT P m t = true → DataW.trod enc P w base sp held fuel t cs = some x → flatV x.1 = some cs) (cs : List Value) : ∀ (fs : List Field) (off : Nat) (xs : List (DataW H × List MemPlace)),
    fs.all (fun f => flatT P m f.type) = true → contig P fs off cs.length = true → fs.mapM (fun f => DataW.trod enc P w base sp held fuel f.type ((cs.drop f.offset).take (P.cellsOf f.type))) = some xs → flatVs (xs.map (·.1)) = some (cs.drop off)
  | [], off, xs, _, hc, hx => by
    simp only [contig, beq_iff_eq] at hc
    simp at hx
    subst hx
    subst hc
    simp [flatVs]
  | f :: fs, off, xs, ha, hc, hx => by
    simp only [contig, Bool.and_eq_true, beq_iff_eq] at hc
    obtain ⟨rfl, hc⟩ := hc
    rw [List.all_cons, Bool.and_eq_true] at ha
    rw [List.mapM_cons] at hx
    simp only [bind, Option.bind_eq_some_iff, pure, Option.some.injEq] at hx
    obtain ⟨x, hx1, xs', hx2, rfl⟩ := hx
    have h1 := IH _ _ _ ha.1 hx1
    have h2 := flat_struct IH cs fs _ xs' ha.2 hc hx2
    simp only [List.map_cons, flatVs, h1, h2]
    rw [← List.drop_drop, List.take_append_drop]
theorem flat_array {fuel m : Nat} {e : TypeId} (IH : ∀ (t : TypeId) (cs : List Value) (x : DataW H × List MemPlace), flatT P m t = true → DataW.trod enc P w base sp held fuel t cs = some x → flatV x.1 = some cs) (he : flatT P m e = true) (cs : List Value) : ∀ (n i : Nat) (xs : List (DataW H × List MemPlace)),
    cs.length = (i + n) * P.cellsOf e → (List.range' i n).mapM (fun i => DataW.trod enc P w base sp held fuel e ((cs.drop (i * P.cellsOf e)).take (P.cellsOf e))) = some xs → flatVs (xs.map (·.1)) = some (cs.drop (i * P.cellsOf e))
  | 0, i, xs, hc, hx => by
    simp at hx
    subst hx
    have : cs.drop (i * P.cellsOf e) = [] := List.drop_eq_nil_of_le (by rw [hc]; exact Nat.le_refl _)
    rw [this]
    simp [flatVs]
  | n + 1, i, xs, hc, hx => by
    rw [List.range'_succ, List.mapM_cons] at hx
    simp only [bind, Option.bind_eq_some_iff, pure, Option.some.injEq] at hx
    obtain ⟨x, hx1, xs', hx2, rfl⟩ := hx
    have h1 := IH _ _ _ he hx1
    have h2 := flat_array IH he cs n (i + 1) xs' (by rw [hc]; congr 1; omega) hx2
    simp only [List.map_cons, flatVs, h1, h2]
    rw [Nat.add_mul, Nat.one_mul, ← List.drop_drop, List.take_append_drop]
theorem flat_ok : ∀ (m fuel : Nat) (t : TypeId) (cs : List Value) (x : DataW H × List MemPlace), flatT P m t = true → DataW.trod enc P w base sp held fuel t cs = some x → flatV x.1 = some cs
  | 0, _, _, _, _, h, _ => by cases h
  | m + 1, 0, _, _, _, _, h => by simp [DataW.trod] at h
  | m + 1, fuel + 1, t, cs, x, hf, h => by
    unfold flatT at hf
    split at hf
    · rename_i hu
      obtain ⟨b, rfl, rfl⟩ := DataW.trod_bool hu h
      rfl
    · rename_i k hu
      obtain ⟨n, rfl, rfl, _⟩ := DataW.trod_int hu h
      rfl
    · rename_i hu
      obtain ⟨s, rfl, rfl, _⟩ := DataW.trod_string hu h
      obtain ⟨⟨l⟩⟩ := s
      rfl
    · rename_i n e hu
      rw [Bool.and_eq_true, beq_iff_eq] at hf
      unfold DataW.trod at h
      simp only [hu] at h
      split at h
      · rename_i hl
        simp only [Option.map_eq_some_iff] at h
        obtain ⟨xs, hx, rfl⟩ := h
        have := flat_array (fun t cs x => flat_ok m fuel t cs x) hf.1 cs n 0 xs (by rw [hl, hf.2, Nat.zero_add]) (by rw [← List.range_eq_range']; exact hx)
        simpa [flatV] using this
      cases h
    · rename_i fs hu
      rw [Bool.and_eq_true] at hf
      unfold DataW.trod at h
      simp only [hu] at h
      split at h
      · rename_i hl
        simp only [Option.map_eq_some_iff] at h
        obtain ⟨xs, hx, rfl⟩ := h
        have := flat_struct (fun t cs x => flat_ok m fuel t cs x) cs fs.toList 0 xs hf.1 (by rw [hl]; exact hf.2) hx
        simpa [flatV] using this
      cases h
    cases hf
end
theorem VRL_vals {w : World} {L : Nat → Prop} {g : Nat} : ∀ {ds : List D} {vs : List Value} {k : Nat}, valsD ds = some vs → (∀ (j : Nat) (v : Value), vs[j]? = some v → w.cell? ⟨g, k + j, none⟩ = some v) → VRL w L ⟨g, 0, none⟩ k ds := by
  intro ds
  induction ds with
  | nil => intro vs k _ _; simp only [VRL]
  | cons d ds ih =>
    intro vs k hv h
    simp only [valsD] at hv
    split at hv
    · rename_i v vs' h1 h2
      injection hv with hv; subst hv
      simp only [VRL]
      refine ⟨⟨v, ?_, ?_, ?_⟩, ih h2 (fun j u hj => ?_)⟩
      · have := h 0 v rfl
        by_cases hk : k = 0
        · subst hk; simpa [Addr.add] using this
        simpa [Addr.add, hk] using this
      · cases d <;> simp only [valD] at h1 <;> first | (injection h1 with h1; subst h1; rfl) | cases h1
      · cases d <;> simp only [valD] at h1 <;> first | (injection h1 with h1; subst h1; simp only [VR]) | cases h1
      rw [show k + 1 + j = k + (j + 1) by omega]
      exact h (j + 1) u (by simpa using hj)
    cases hv
end Go.V
/- CONDITIONS OF SEVERAL PARTS: what stands under a guard, told without parting the rest. -/
namespace Go.V
open Go.RowKit
class PS (env : List D) (b : Nat) (l : List (Nat × D)) (env' : outParam (List D)) : Prop where
  len : env.length = env'.length
instance PS.nil {env : List D} {b : Nat} : PS env b [] env := ⟨rfl⟩
instance (priority := low) PS.miss {env env' : List D} {b : Nat} {l : List (Nat × D)} {x : D} [h : PS env (b + 1) l env'] : PS (x :: env) b l (x :: env') := ⟨by simp [h.len]⟩
instance PS.hit {env env' : List D} {b : Nat} {l : List (Nat × D)} {x d : D} [h : PS env (b + 1) l env'] : PS (x :: env) b ((b, d) :: l) (d :: env') := ⟨by simp [h.len]⟩
instance (priority := high) Puts.sorted {env env' : List D} {l : List (Nat × D)} [h : PS env 0 l env'] : Puts env l env' := ⟨h.len⟩
section
variable {C : Ctx} {Q : Post} {ops : Array Oper} {rest rest2 : List Oper} {k : List Item} {v v' e1 e2 : List D} {H : Heap} {df : List ADef} {b c : Bool}
theorem AOps.env (hl : envLe v v') (h : AOps C Q ops rest k v' H df) : AOps C Q ops rest k v H df := ⟨fun i hi => ARun.env hl (h.out i hi)⟩
theorem AOps.ag (h : AOps C Q ops rest k v' H df) (hl : envLe v v' := by (repeat' first | exact envLe_nil | apply envLe_any | apply envLe_same)) : AOps C Q ops rest k v H df := AOps.env hl h
theorem AOps.andJ {E : Bool → List D} (t : Nat) (cs : Bool → List (Nat × D)) [hE : ∀ s, Puts v (cs s) (E s)] (hb : v[t]? = some (.bool b)) [h1 : PutL v t (.bool true) e1] [h2 : PutL v t (.bool false) e2]
    (k1 : b = true → AOps C Q ops rest2 k (E c) H df → AOps C Q ops rest k e1 H df) (k2 : b = false → AOps C Q ops rest2 k (E false) H df → AOps C Q ops rest k e2 H df) (k3 : AOps C Q ops rest2 k (E (b && c)) H df) : AOps C Q ops rest k v H df :=
  AOps.bool t hb (fun h => k1 h (by rw [h, Bool.true_and] at k3; exact k3)) (fun h => k2 h (by rw [h, Bool.false_and] at k3; exact k3))
theorem AOps.orJ {E : Bool → List D} (t : Nat) (cs : Bool → List (Nat × D)) [hE : ∀ s, Puts v (cs s) (E s)] (hb : v[t]? = some (.bool b)) [h1 : PutL v t (.bool true) e1] [h2 : PutL v t (.bool false) e2]
    (k1 : b = true → AOps C Q ops rest2 k (E true) H df → AOps C Q ops rest k e1 H df) (k2 : b = false → AOps C Q ops rest2 k (E c) H df → AOps C Q ops rest k e2 H df) (k3 : AOps C Q ops rest2 k (E (b || c)) H df) : AOps C Q ops rest k v H df :=
  AOps.bool t hb (fun h => k1 h (by rw [h, Bool.true_or] at k3; exact k3)) (fun h => k2 h (by rw [h, Bool.false_or] at k3; exact k3))
end
section
variable {C : Ctx} {env : List D} {H : Heap} {dst : Option Tmp} {ty : TypeId} {pos : String} {aft : Array Edge} {gd : Option (Nat × Bool)} {T e : TypeId}
theorem Zbh {n S b : Nat} {zv : Value} {zs : List D} {te : TE} (ht : C.ty T = some ⟨.array n e, S, b, zv⟩) (hee : C.ty e = some te) (hz : constD zv = some (.agg zs)) : OpQ C ⟨dst, .build T #[], ty, pos, aft, gd⟩ env H (.agg zs) :=
  OpQ.of_runS fun L0 w μ a hs he => by
    have hzv := constD_ok (w := w) (L := forb L0 μ H) (μ := μ) (H := H) hz
    simp only [VR] at hzv
    obtain ⟨zvs, hz1, hz2⟩ := hzv
    have hun : C.P.underlying T = some (.array n e) := (C.ok T _ ht).2
    have h1 : (zeroValue T).run C.P w = .ok zv w := (ty_tic ht).1.run_zero w
    have h2 := (ty_tic hee).1.run_size w
    refine ⟨.agg zvs.toArray, ?_, by simp only [VR]; exact ⟨zvs, rfl, hz2⟩⟩
    simp only [execOp]
    unfold Instr.build
    simp [h1, run_underlying hun, h2, hz1, Value.cells, Instr.fill]
end
end Go.V
/- APPEND OF SEVERAL ELEMENTS AT ONCE to a slice that grows. -/
set_option maxHeartbeats 1000000
namespace Go.V
open Go.RowKit Go.Proofs
section
variable {C : Ctx} {Q : Post} {k : List Item} {env env' : List D} {H : Heap} {df : List ADef} {ops : Array Oper} {rest : List Oper} {i : Nat} {is : List Nat}
variable {dst : Option Tmp} {ty : TypeId} {pos : String} {aft : Array Edge} {gd : Option (Nat × Bool)} {x y : Operand} {T e : TypeId} {te tee : TE} {n b S m : Nat} {J : Heap} {cs dxs : List D} {F : Heap → Heap} {zv : Value} {dz : D} {zs : List D}
end
end Go.V
/- A TEXT APPENDED TO A GROWING ROW; pointers held against nil and each other; unsafe pointers; a row of bytes read as a text; a map's entry written anew, its length. -/
set_option maxHeartbeats 1000000
namespace Go.V
open Go.RowKit Go.Proofs
def strD (s : ByteArray) : List D := s.data.toList.map fun b => D.int .u8 b.toNat
theorem strD_length (s : ByteArray) : (strD s).length = s.size := by unfold strD; rw [List.length_map, Array.length_toList]; rfl
theorem strD_cell {s : ByteArray} {j : Nat} {d : D} (h : (strD s)[j]? = some d) : ∃ u : UInt8, s.data.toList[j]? = some u ∧ d = .int .u8 u.toNat := by
  unfold strD at h
  rw [List.getElem?_map] at h
  cases e : s.data.toList[j]? with
  | none => rw [e] at h; cases h
  | some u => rw [e] at h; injection h with h; exact ⟨u, rfl, h.symm⟩
theorem strCells_get {s : ByteArray} {j : Nat} {u : UInt8} (h : s.data.toList[j]? = some u) : (Lib.strCells s)[j]? = some (.int .u8 u.toNat) := by
  unfold Lib.strCells
  rw [List.getElem?_map, h]; rfl
theorem run_append_str_at {P : Program} (w : World) (base : Nat) (t u ty e : TypeId) (i : TypeInfo) (ht : P.underlying t = some (.slice e)) (hu : P.underlying u = some .string) (hi : P.info? e = some i) (hz : i.zero = some (.int .u8 0))
    (hsize : i.size = 1) (hby : i.bytes = 1) (v : Value) (n : Nat) (xs : List Value) (hown : w.ownsRow base e 1 v n xs) (s : ByteArray) (h63 : n + s.size ≤ maxLen) (hbytes : n + s.size ≤ 140737488355328) (hbase : base ≤ w.heap.size) :
    ∃ v' w', (Builtin.append_ #[t, u] ty #[v, .string s]).run P w = .ok v' w' ∧ w'.ownsRow base e 1 v' (n + s.size) (xs ++ Lib.strCells s) ∧ w.grownBy w' v.ownBlock ∧ (v'.ownBlock = v.ownBlock ∨ v'.ownBlock = some w.heap.size) := by
  obtain ⟨v', w', h1, h2, h3, h4⟩ := Lib.run_append_own_string (P := P) w base t u ty e i ht hu hi hz hsize hby v n xs hown s h63 hbytes hbase
  refine ⟨v', w', h1, h2, h3, ?_⟩
  have hml : maxLen = 9223372036854775807 := by unfold maxLen; rfl
  rcases hown.2 with ⟨rfl, rfl⟩ | ⟨g, cap, cur, rfl, hbg, hg, hnc, hcm, hcs, htake⟩
  · by_cases hm : s.size = 0
    · left; rw [h4.2 ⟨rfl, hm⟩]
    right
    have hr := run_append_nil_string (P := P) w t u ty e i (.int .u8 0) ht hu hi hz s (by omega) (by omega) (by rw [hby]; omega)
    rw [h1] at hr
    injection hr with e1 e2
    rw [e1]; rfl
  have hxl : xs.length = n := by simpa using hown.1
  by_cases hroom : n + s.size ≤ cap
  · have hcs' : cur.size = cap := by simpa using hcs
    have hr := Lib.run_append_room_string (P := P) w t u ty e i ht hu hi hsize g n cap cur hg s hroom (by omega)
    rw [h1] at hr
    injection hr with e1 e2
    left; rw [e1]; rfl
  have holds : ∀ j u, xs[j]? = some u → w.cell? ((⟨g, 0, none⟩ : Addr).add j) = some u := hown.cells (g := g) rfl
  have hr := Lib.run_append_grow_string (P := P) w t u ty e i (.int .u8 0) ht hu hi hz ⟨g, 0, none⟩ n cap xs (by rw [hsize]; simpa using hxl) holds s (by omega) (by omega) (by rw [hby]; exact growslice_fits (by omega) (by omega))
  rw [h1] at hr
  injection hr with e1 e2
  right; rw [e1]; rfl
section
variable {C : Ctx} {env : List D} {H : Heap} {dst : Option Tmp} {ty : TypeId} {pos : String} {aft : Array Edge} {gd : Option (Nat × Bool)} {x y : Operand} {T U e : TypeId} {descE : TypeDesc}
theorem Zfs {id n : Nat} {o : AObj} {s : ByteArray} (ht : UN C T (.slice e)) (hu : UN C U .string) (te : TIC C e descE 1 1 (.int .u8 0))
    (hx : evO C env x = some (.row id n)) (ho : H[id]? = some (some o)) (hl : o.live = true) (hel : o.elem = e) (hes : o.esz = 1) (hy : evO C env y = some (.str s)) (hb : n + s.size ≤ 140737488355328) :
    OpN C ⟨dst, .call ⟨.builtin .append, #[x, y], #[T, U]⟩, ty, pos, aft, gd⟩ env H (.row H.length (n + s.size)) (H.set id none ++ [some ⟨o.cells ++ strD s, e, 1, true, none⟩]) := by
  refine ⟨fun L0 w μ a hsr hv => ?_⟩
  have ex := evO_ok hsr hv hx
  have ey := evO_ok hsr hv hy
  have hm : n + s.size ≤ maxLen := by rw [maxLen_eq]; omega
  simp only [VR] at ex ey
  obtain ⟨xo, hxo, h2⟩ := ex
  rw [ho] at hxo
  injection hxo with hxo
  obtain ⟨b, cap, cur, k1, ex, k3, k4, k5, k6, k7⟩ := h2 o hxo.symm
  rw [hel] at k5
  rw [hes] at k6 k7
  rw [Nat.mul_one] at k6 k7
  obtain ⟨i, i1, i2, i3, i4⟩ := te.infos
  obtain ⟨curO, co1, co2, co3⟩ := (hsr.obj id o b ho k1).row ((hsr.obj id o b ho k1).sp_none k5)
  rw [hel, k5] at co1
  injection co1 with co1
  injection co1 with co1
  subst co1
  have htk : (cur.toList.take n).length = n := by
    rw [List.length_take, Array.length_toList, k6]; omega
  have hown : w.ownsRow 0 e 1 (.slice (some ⟨b, 0, none⟩) n cap) n (cur.toList.take n) := ⟨by rw [Nat.mul_one]; exact htk, .inr ⟨b, cap, cur, rfl, Nat.zero_le _, k5, k3, k4, by rw [Nat.mul_one]; exact k6, by rw [Nat.mul_one]⟩⟩
  obtain ⟨v', w', hrun, r1, r2, r4⟩ := run_append_str_at (P := C.P) w 0 T U ty e i ht hu i1 i4 i2 i3 _ n _ hown s hm hb (Nat.zero_le _)
  have hcl : (o.cells ++ strD s).length = n + s.size := by rw [List.length_append, k7, strD_length]
  have fin : ∀ (b' cap' : Nat) (cur' : Array Value), v' = .slice (some ⟨b', 0, none⟩) (n + s.size) cap' → (b' = b ∨ b' = w.heap.size) → w'.heap[b']? = some (.cells cur' e (0, 0)) → n + s.size ≤ cap' → cap' ≤ maxLen → cur'.size = cap' →
      (∀ (j : Nat) (d : D), (o.cells ++ strD s)[j]? = some d → ∃ v : Value, cur'[j]? = some v ∧ v.oneCell' = true ∧ VR w (forb L0 μ H) μ H d v) →
      Oper.wp C.P ⟨dst, .call ⟨.builtin .append, #[x, y], #[T, U]⟩, ty, pos, aft, gd⟩ a w (fun a' w' => ∃ v d H' μ', (d = .row H.length (n + s.size) ∧ H' = H.set id none ++ [some ⟨o.cells ++ strD s, e, 1, true, none⟩]) ∧ a' = a.put dst v ∧ SR C L0 w' μ' H' ∧ VR w' (forb L0 μ' H') μ' H' d v ∧ Evo w w' μ μ' H H')
        (fun e' a' w' => ∃ v d H' μ', e' = .panic (pan1 v) ∧ a' = a ∧ False ∧ SR C L0 w' μ' H' ∧ VR w' (forb L0 μ' H') μ' H' d v ∧ Evo w w' μ μ' H H') := by
    intro b' cap' cur' hv' hb' hc q1 q2 q3 hcs
    unfold Oper.wp
    have hrunop : (execOp a.eval ⟨dst, .call ⟨.builtin .append, #[x, y], #[T, U]⟩, ty, pos, aft, gd⟩).run C.P w = .ok (.value v') w' := by
      simp [execOp, resolve, invoke, builtin, ex, ey, hrun]
    rw [hrunop]
    obtain ⟨s1, s2⟩ := hsr.regrow (o' := ⟨o.cells ++ strD s, e, 1, true, none⟩) ho k1 hl (by simpa [Value.ownBlock] using r2) hb' hc (by show (o.cells ++ strD s).length ≤ _; rw [hcl, q3]; exact q1) hcs
    subst hv'
    refine ⟨_, _, _, _, ⟨rfl, rfl⟩, rfl, s1, ?_, s2⟩
    simp only [VR]
    refine ⟨some ⟨o.cells ++ strD s, e, 1, true, none⟩, by rw [List.getElem?_append_right (by simp)]; simp, fun o' e' => ?_⟩
    injection e' with e'
    subst e'
    exact ⟨b', cap', cur', by rw [← hsr.len]; simp, rfl, q1, q2, hc, by rw [Nat.mul_one]; exact q3, by rw [Nat.mul_one]; exact hcl⟩
  rcases r1.2 with ⟨hvn, hz0⟩ | ⟨g, cap', cur', rfl, _, g2, g3, g4, g5, g6⟩
  · rw [hvn] at r4
    simp [Value.ownBlock] at r4
  rw [Nat.mul_one] at g5 g6
  refine fin g cap' cur' rfl (by
    rcases r4 with h | h
    · left; simpa [Value.ownBlock] using h
    right; simpa [Value.ownBlock] using h) g2 g3 g4 g5 fun j d hd => ?_
  have hj : j < n + s.size := by
    have := (List.getElem?_eq_some_iff.1 hd).1
    rw [hcl] at this; exact this
  have hget : cur'[j]? = (cur.toList.take n ++ Lib.strCells s)[j]? := by
    rw [← g6, List.getElem?_take, if_pos hj, Array.getElem?_toList]
  by_cases hj2 : j < n
  · rw [List.getElem?_append_left (by rw [k7]; exact hj2)] at hd
    rw [hget, List.getElem?_append_left (by rw [htk]; exact hj2), List.getElem?_take, if_pos hj2, Array.getElem?_toList]
    exact co3 j d hd
  rw [List.getElem?_append_right (by rw [k7]; omega), k7] at hd
  obtain ⟨u, u1, rfl⟩ := strD_cell hd
  refine ⟨.int .u8 u.toNat, ?_, rfl, by simp only [VR]⟩
  rw [hget, List.getElem?_append_right (by rw [htk]; omega), htk]
  exact strCells_get u1
theorem ZeL {s : ByteArray} (ht : UN C T (.slice e)) (hu : UN C U .string) (te : TIC C e descE 1 1 (.int .u8 0))
    (hx : evO C env x = some .nilsl) (hy : evO C env y = some (.str s)) (h0 : 0 < s.size) (hb : s.size ≤ 140737488355328) :
    OpN C ⟨dst, .call ⟨.builtin .append, #[x, y], #[T, U]⟩, ty, pos, aft, gd⟩ env H (.row H.length s.size) (H ++ [some ⟨strD s, e, 1, true, none⟩]) := by
  refine ⟨fun L0 w μ a hsr hv => ?_⟩
  have ex := evO_ok hsr hv hx
  have ey := evO_ok hsr hv hy
  have hm : s.size ≤ maxLen := by rw [maxLen_eq]; omega
  simp only [VR] at ex ey
  obtain ⟨i, i1, i2, i3, i4⟩ := te.infos
  obtain ⟨v', w', hrun, r1, r2, r4⟩ := run_append_str_at (P := C.P) w w.heap.size T U ty e i ht hu i1 i4 i2 i3 _ 0 [] (World.ownsRow_nil w _ e 1) s (by omega) (by omega) (Nat.le_refl _)
  simp only [Nat.zero_add, List.nil_append] at r1
  rcases r1.2 with ⟨_, hz0⟩ | ⟨g, cap', cur', rfl, hgg, g2, g3, g4, g5, g6⟩
  · omega
  have hgs : g = w.heap.size := by
    rcases r4 with h | h
    · simp [Value.ownBlock] at h
    simpa [Value.ownBlock] using h
  subst hgs
  rw [Nat.mul_one] at g5 g6
  have hrunop : (execOp a.eval ⟨dst, .call ⟨.builtin .append, #[x, y], #[T, U]⟩, ty, pos, aft, gd⟩).run C.P w = .ok (.value (.slice (some ⟨w.heap.size, 0, none⟩) s.size cap')) w' := by
    simp [execOp, resolve, invoke, builtin, ex, ey, hrun]
  unfold Oper.wp
  rw [hrunop]
  obtain ⟨s1, s2⟩ := hsr.grow (o' := ⟨strD s, e, 1, true, none⟩) (by simpa [Value.ownBlock] using r2) g2 (by show (strD s).length ≤ _; rw [strD_length, g5]; exact g3) fun j d hd => by
    have hj : j < s.size := by rw [← strD_length]; exact (List.getElem?_eq_some_iff.1 hd).1
    have hget : cur'[j]? = (Lib.strCells s)[j]? := by rw [← g6, List.getElem?_take, if_pos hj, Array.getElem?_toList]
    obtain ⟨u, u1, rfl⟩ := strD_cell hd
    exact ⟨.int .u8 u.toNat, by rw [hget]; exact strCells_get u1, rfl, by simp only [VR]⟩
  refine ⟨_, _, _, _, ⟨rfl, rfl⟩, rfl, s1, ?_, s2⟩
  simp only [VR]
  refine ⟨some ⟨strD s, e, 1, true, none⟩, by rw [List.getElem?_append_right (Nat.le_refl _)]; simp, fun o' e' => ?_⟩
  injection e' with e'
  subst e'
  exact ⟨w.heap.size, cap', cur', by rw [← hsr.len]; simp, rfl, g3, g4, g2, by rw [Nat.mul_one]; exact g5, by rw [Nat.mul_one]; exact strD_length s⟩
end
section
variable {C : Ctx} {Q : Post} {k : List Item} {env env' : List D} {H : Heap} {df : List ADef} {ops : Array Oper} {rest : List Oper}
variable {dst : Option Tmp} {ty : TypeId} {pos : String} {aft : Array Edge} {gd : Option (Nat × Bool)} {x y : Operand} {T U e : TypeId} {descE : TypeDesc} {n b S b' S' : Nat} {J : Heap} {cs : List D} {F : Heap → Heap} {zv zv' : Value} {s : ByteArray}
end
theorem SR.killW {C : Ctx} {L0 : Nat → Prop} {w w' : World} {μ : List Nat} {H : Heap} (hs : SR C L0 w μ H) {i b : Nat} {o : AObj} (ho : H[i]? = some (some o)) (hb : μ[i]? = some b) (hl : o.live = true) (h1 : w'.os = w.os) (h2 : w'.tape = w.tape) (h3 : w'.output = w.output) (h4 : w'.heap.size = w.heap.size)
    (hoth : ∀ k, k ≠ b → w'.heap[k]? = w.heap[k]?) : SR C L0 w' μ (H.set i none) ∧ Evo w w' μ μ H (H.set i none) := by
  have hi : i < H.length := (List.getElem?_eq_some_iff.1 ho).1
  have hcase : ∀ (j : Nat) (x : AObj), (H.set i none)[j]? = some (some x) → j ≠ i ∧ H[j]? = some (some x) := by
    intro j x h
    rw [List.getElem?_set] at h
    by_cases hji : i = j
    · subst hji; simp [hi] at h
    simp [hji] at h; exact ⟨fun e => hji e.symm, h⟩
  have hne : ∀ (j : Nat) (oj : AObj) (bj : Nat), j ≠ i → H[j]? = some (some oj) → μ[j]? = some bj → bj ≠ b := by
    intro j oj bj h1 h2 h3 e
    subst e
    exact h1 (hs.inj i j o oj bj ho h2 hb h3 hl).symm
  have he : Evo w w' μ μ H (H.set i none) := by
    refine ⟨h1, h2, h3, by omega, fun k hk hkl => hoth k (fun e => hkl ⟨i, o, ho, hl, e ▸ hb⟩), fun k hk hkl => ?_, fun _ _ h => h, fun j x hxj => ?_⟩
    · obtain ⟨j, oj, q1, q2, q3⟩ := hkl
      exact ⟨j, oj, (hcase j _ q1).2, q2, q3⟩
    by_cases hji : j = i
    · subst hji
      exact ⟨none, by simp [hi], fun o'' e => by cases e⟩
    refine ⟨x, by rw [List.getElem?_set_ne (fun e => hji e.symm)]; exact hxj, fun o'' e => ⟨o'', e, rfl, rfl, rfl, fun b' cur'' hb' hw' => ?_⟩⟩
    subst e
    exact ⟨cur'', by rw [hoth _ (hne j o'' b' hji hxj hb')]; exact hw', rfl⟩
  refine ⟨hs.next he (by simp [hs.len]) (fun j oj bj q1 q2 => ?_) (fun j k oj ok bj q1 q2 q3 q4 hlj => ?_) (fun j oj bj q1 q2 hL => ?_), he⟩
  · obtain ⟨hji, k2⟩ := hcase j _ q1
    exact (hs.obj j oj bj k2 q2).same (hoth _ (hne j oj bj hji k2 q2))
  · exact hs.inj j k oj ok bj (hcase j _ q1).2 (hcase k _ q2).2 q3 q4 hlj
  exact hs.own j oj bj (hcase j _ q1).2 q2 hL
section
variable {C : Ctx} {env : List D} {H : Heap} {dst : Option Tmp} {ty : TypeId} {pos : String} {aft : Array Edge} {gd : Option (Nat × Bool)} {x y z : Operand} {T T' U e : TypeId} {d : D}
theorem run_eqGuard_ptr {P : Program} {w : World} {op : BinOp} {t : TypeId} {a b : Option Addr} : (eqGuard op t x y (.pointer a) (.pointer b)).run P w = .ok () w := by
  unfold eqGuard
  simp only [Sem.run_bind]
  split <;> simp
theorem Zgl {id off : Nat} (hp : C.P.underlying T = some (.pointer (C.P.pointee T))) (hx : evO C env x = some (.ptr id off)) (hy : evO C env y = some .nilptr) : OpQ C ⟨dst, .binOp .eql T x y T', ty, pos, aft, gd⟩ env H (.bool false) :=
  OpQ.of_run fun L w μ a he => by
    have ex := he _ _ hx
    have ey := he _ _ hy
    simp only [VR] at ex ey
    obtain ⟨b, _, ex⟩ := ex
    refine ⟨.bool false, ?_, by simp only [VR]⟩
    simp only [execOp, ex, ey, Sem.run_bind, run_eqGuard_ptr, run_eql_pointer_nil _ _ _ hp, Result.andThen_ok, Sem.run_pure]
    rfl
theorem Zgm (hp : C.P.underlying T = some (.pointer (C.P.pointee T))) (hx : evO C env x = some .nilptr) (hy : evO C env y = some .nilptr) : OpQ C ⟨dst, .binOp .eql T x y T', ty, pos, aft, gd⟩ env H (.bool true) :=
  OpQ.of_run fun L w μ a he => by
    have ex := he _ _ hx
    have ey := he _ _ hy
    simp only [VR] at ex ey
    refine ⟨.bool true, ?_, by simp only [VR]⟩
    simp only [execOp, ex, ey, Sem.run_bind, run_eqGuard_ptr, run_eql_pointer_nil _ _ _ hp, Result.andThen_ok, Sem.run_pure]
    rfl
theorem Zft {id off : Nat} {te : TE} (hp : C.P.underlying T = some (.pointer e)) (hte : C.ty e = some te) (hx : evO C env x = some (.ptr id off)) (hy : evO C env y = some (.ptr id off)) : OpQ C ⟨dst, .binOp .neq T x y T', ty, pos, aft, gd⟩ env H (.bool false) :=
  OpQ.of_run fun L w μ a he => by
    have ex := he _ _ hx
    have ey := he _ _ hy
    simp only [VR] at ex ey
    obtain ⟨b, hb, ex⟩ := ex
    obtain ⟨b', hb', ey⟩ := ey
    obtain rfl : b = b' := Option.some.inj (hb.symm.trans hb')
    obtain ⟨i, i1, _⟩ := (ty_tic hte).1.infos
    refine ⟨.bool false, ?_, by simp only [VR]⟩
    simp only [execOp, ex, ey, Sem.run_bind, run_eqGuard_ptr, Lib.run_neq_ptr_same w ⟨b, off, none⟩ hp i1, Result.andThen_ok, Sem.run_pure]
theorem ZfN {id off : Nat} {o : AObj} {te : TE} (hs : C.P.underlying T = some (.pointer e)) (hd : C.P.underlying U = some .unsafePointer) (hte : C.ty e = some te) (hsz : te.size ≠ 0) (hx : evO C env x = some (.ptr id off)) (ho : H[id]? = some (some o)) (hsp : o.sp = none) (hoff : off < o.cells.length) :
    OpQ C ⟨dst, .convert T U x, ty, pos, aft, gd⟩ env H (.ptr id off) :=
  OpQ.of_runS fun L0 w μ a hsr he => by
    have ex := he _ _ hx
    simp only [VR] at ex
    obtain ⟨b, hb, ex⟩ := ex
    obtain ⟨i, i1, i2, _⟩ := (ty_tic hte).1.infos
    obtain ⟨cur, c1, c2, _⟩ := (hsr.obj id o b ho hb).row hsp
    have hsh : w.shape? b = some (o.elem, cur.size) := by simp [World.shape?, c1]
    refine ⟨.pointer (some ⟨b, off, none⟩), ?_, by simp only [VR]; exact ⟨b, hb, rfl⟩⟩
    simp only [execOp, ex, Sem.run_bind, Lib.run_to_unsafe w ⟨b, off, none⟩ hs hd i1 (by rw [i2]; exact hsz) hsh (by show off < cur.size; omega), Result.andThen_ok, Sem.run_pure]
theorem lies_one {P : Program} {u : TypeId} (hc : P.cellsOf u ≠ 0) (hsl : sameLayout P P.depth u u = true) (count : Nat) (h : 1 ≤ count) : liesAt P P.depth u count 0 u 1 = true := by
  have hd : P.depth = (2 * (P.types.size + Made.depth) + 1) + 1 := rfl
  rw [hd] at hsl ⊢
  simp only [liesAt, Bool.or_eq_true]
  left
  rw [hd]
  simp [rowAt, hc, h, hsl]
theorem Zfe {id : Nat} {o : AObj} {te : TE} (hs : C.P.underlying T = some .unsafePointer) (hd : C.P.underlying U = some (.pointer e)) (hte : C.ty e = some te) (hc : C.P.cellsOf e = te.size) (hsz : te.size ≠ 0) (hsl : sameLayout C.P C.P.depth e e = true) (hx : evO C env x = some (.ptr id 0)) (ho : H[id]? = some (some o)) (hsp : o.sp = none) (hel : o.elem = e) (hlen : te.size ≤ o.cells.length) :
    OpQ C ⟨dst, .convert T U x, ty, pos, aft, gd⟩ env H (.ptr id 0) :=
  OpQ.of_runS fun L0 w μ a hsr he => by
    have ex := he _ _ hx
    simp only [VR] at ex
    obtain ⟨b, hb, ex⟩ := ex
    obtain ⟨i, i1, i2, _⟩ := (ty_tic hte).1.infos
    obtain ⟨cur, c1, c2, _⟩ := (hsr.obj id o b ho hb).row hsp
    have hsh : w.shape? b = some (e, cur.size) := by simp [World.shape?, c1, hel]
    have h1 : 1 ≤ cur.size / C.P.cellsOf e := by rw [hc, Nat.le_div_iff_mul_le (by omega)]; omega
    refine ⟨.pointer (some ⟨b, 0, none⟩), ?_, by simp only [VR]; exact ⟨b, hb, rfl⟩⟩
    simp only [execOp, ex, Sem.run_bind, Lib.run_from_unsafe w ⟨b, 0, none⟩ hs hd i1 hsh (lies_one (by rw [hc]; exact hsz) hsl _ h1), Result.andThen_ok, Sem.run_pure]
theorem ZfO {f : FuncId} {fn : Func} {id off : Nat} {tys : Array TypeId} (hf : C.P.funcs[f]? = some fn) (hname : (fn.name == "runtime.NumGoroutine") = false) (hb : fn.body.isNone = true) (hn : Extern.findNext fn = none) (he : Extern.find fn = some Extern.AbiNoEscape.same) (hc : evO C env y = some (.clos f [])) (hx : evO C env x = some (.ptr id off)) :
    OpQ C ⟨dst, .call ⟨.value y, #[x], tys⟩, ty, pos, aft, gd⟩ env H (.ptr id off) :=
  OpQ.of_run fun L w μ a hev => by
    have ex := hev _ _ hx
    have ey := hev _ _ hc
    simp only [VR, VRs] at ex ey
    obtain ⟨vs, ey, rfl⟩ := ey
    obtain ⟨b, hb2, ex⟩ := ex
    refine ⟨.pointer (some ⟨b, off, none⟩), ?_, by simp only [VR]; exact ⟨b, hb2, rfl⟩⟩
    have hr := run_callFunc_extern (P := C.P) hf hname hb hn he #[.pointer (some ⟨b, off, none⟩)] w
    rw [Lib.run_noEscape] at hr
    have h1 : (#[x] : Array Operand).map a.eval = #[.pointer (some ⟨b, off, none⟩)] := by simp [ex]
    simp only [execOp, resolve, h1, ey, Deferred.ofValue, Sem.run_bind, Sem.run_pure, Result.andThen_ok, invoke]
    have h2 : (#[] ++ #[(.pointer (some ⟨b, off, none⟩) : Value)] ++ #[] : Array Value) = #[.pointer (some ⟨b, off, none⟩)] := by simp
    rw [h2, hr]; rfl
theorem Zfu {id n : Nat} {o : AObj} {tys : Array TypeId} (hx : evO C env x = some (.row id n)) (ho : H[id]? = some (some o)) (hn : n ≠ 0) : OpQ C ⟨dst, .call ⟨.builtin .unsafeSliceData, #[x], tys⟩, ty, pos, aft, gd⟩ env H (.ptr id 0) :=
  OpQ.of_run fun L w μ a he => by
    have ex := he _ _ hx
    simp only [VR] at ex
    obtain ⟨xo, hxo, h2⟩ := ex
    rw [ho] at hxo
    injection hxo with hxo
    obtain ⟨b, cap, cur, k1, ex, k3, _⟩ := h2 o hxo.symm
    refine ⟨.pointer (some ⟨b, 0, none⟩), ?_, by simp only [VR]; exact ⟨b, k1, rfl⟩⟩
    simp [execOp, resolve, invoke, builtin, ex, Lib.run_unsafeSliceData_row (P := C.P) w tys ty ⟨b, 0, none⟩ n cap (by omega)]
theorem ZeM {tys : Array TypeId} (hx : evO C env x = some .nilsl) : OpQ C ⟨dst, .call ⟨.builtin .unsafeSliceData, #[x], tys⟩, ty, pos, aft, gd⟩ env H .nilptr :=
  OpQ.of_run fun L w μ a he => by
    have ex := he _ _ hx
    simp only [VR] at ex
    refine ⟨.pointer none, ?_, by simp only [VR]⟩
    simp [execOp, resolve, invoke, builtin, ex, Lib.run_unsafeSliceData_nil (P := C.P) w tys ty]
theorem ZeN {p it : TypeId} (hx : evO C env x = some .nilptr) (hy : evO C env y = some (.int .i64 0)) : OpQ C ⟨dst, .call ⟨.builtin .unsafeString, #[x, y], #[p, it]⟩, ty, pos, aft, gd⟩ env H (.str ByteArray.empty) :=
  OpQ.of_run fun L w μ a he => by
    have ex := he _ _ hx
    have ey := he _ _ hy
    simp only [VR] at ex ey
    refine ⟨.string .empty, ?_, by simp only [VR]⟩
    simp [execOp, resolve, invoke, builtin, ex, ey, Lib.run_unsafeString_none (P := C.P) w p it ty none]
theorem Zfv {id n : Nat} {o : AObj} {p it : TypeId} {s : ByteArray} (hp : C.P.underlying p = some (.pointer e)) (hc : C.P.cellsOf e = 1) (hx : evO C env x = some (.ptr id 0)) (hy : evO C env y = some (.int .i64 (n : Int))) (ho : H[id]? = some (some o)) (hsp : o.sp = none) (hl : o.live = true) (hel : o.elem = e) (hcs : o.cells = strD s) (hn : s.size = n) (h0 : n ≠ 0) (h63 : n ≤ 1099511627776) :
    OpN C ⟨dst, .call ⟨.builtin .unsafeString, #[x, y], #[p, it]⟩, ty, pos, aft, gd⟩ env H (.str s) (H.set id none) := by
  refine ⟨fun L0 w μ a hsr hv => ?_⟩
  have ex := evO_ok hsr hv hx
  have ey := evO_ok hsr hv hy
  simp only [VR] at ex ey
  obtain ⟨b, hb, ex⟩ := ex
  obtain ⟨cur, c1, c2, c3⟩ := (hsr.obj id o b ho hb).row hsp
  rw [hel] at c1
  have hls : s.data.toList.length = n := by rw [Array.length_toList]; exact hn
  have hcell : ∀ j x, s.data.toList[j]? = some x → w.cell? ((⟨b, 0, none⟩ : Addr).add j) = some (.int .u8 x.toNat) := by
    intro j u hj
    obtain ⟨v, v1, _, v3⟩ := c3 j (.int .u8 u.toNat) (by rw [hcs]; unfold strD; rw [List.getElem?_map, hj]; rfl)
    simp only [VR] at v3
    have hlit : ((⟨b, 0, none⟩ : Addr).add j) = ⟨b, j, none⟩ := by rw [Addr.add_lit, Nat.zero_add]
    rw [hlit, Lib.cell_of_heap c1, v1, v3]
  have hrun := Lib.run_unsafeString_row (P := C.P) w p it ty e hp hc b cur.size (by simp [World.shape?, c1]) s.data.toList (by intro e'; rw [e'] at hls; simp at hls; omega) (by rw [hls]; have := congrArg List.length hcs; rw [strD_length] at this; omega) (by omega) hcell
  rw [hls] at hrun
  have hrunop : (execOp a.eval ⟨dst, .call ⟨.builtin .unsafeString, #[x, y], #[p, it]⟩, ty, pos, aft, gd⟩).run C.P w = .ok (.value (.string ⟨s.data.toList.toArray⟩)) (w.freeze ⟨b, 0, none⟩ n) := by
    simp [execOp, resolve, invoke, builtin, ex, ey] at hrun ⊢
    rw [hrun]; rfl
  unfold Oper.wp
  rw [hrunop]
  have hfz : w.freeze ⟨b, 0, none⟩ n = { w with heap := (w.freeze ⟨b, 0, none⟩ n).heap } := by unfold World.freeze; split <;> rfl
  obtain ⟨s1, s2⟩ := hsr.killW (w' := w.freeze ⟨b, 0, none⟩ n) ho hb hl (by rw [hfz]) (by rw [hfz]) (by rw [hfz]) (by unfold World.freeze; split <;> simp) (fun k hk => by
    unfold World.freeze
    split
    · rfl
    simp only [Array.getElem?_modify]
    rw [if_neg (fun e => hk e.symm)])
  exact ⟨_, _, _, _, ⟨rfl, rfl⟩, rfl, s1, by simp only [VR], s2⟩
end
/-! MAPS: an entry that is there is written anew; the length. -/
theorem findNow_at {w : World} {L : Nat → Prop} {μ : List Nat} {H : Heap} {k : IntKind} {n : Int} {d : D} : ∀ {es : List (D × D)} {l : List MapEntry} (i : Nat), findI k n es = some (some d) → VRs w L μ H (es.map (·.1)) (l.map (·.key)) → VRs w L μ H (es.map (·.2)) (l.map (·.val)) →
    ∃ j v, Instr.findNow (.int k) (.int k n) l i = some (some (i + j, v)) ∧ es[j]? = some (.int k n, d)
  | [], l, i, h, _, _ => by simp [findI] at h
  | (d0, v0) :: es, [], i, h, h1, _ => by simp [VRs] at h1
  | (d0, v0) :: es, e :: l, i, h, h1, h2 => by
    simp only [List.map_cons, VRs] at h1 h2
    obtain ⟨v1, us1, e1, k1, k2⟩ := h1
    obtain ⟨v2, us2, e2, m1, m2⟩ := h2
    injection e1 with e1 e1'
    injection e2 with e2 e2'
    subst e1; subst e2; subst e1'; subst e2'
    cases d0 <;> simp only [findI] at h <;> try (cases h; done)
    rename_i k' m
    simp only [VR] at k1
    by_cases hk : k = k'
    · subst hk
      simp only [decide_true, cond_true] at h
      by_cases hn : n = m
      · subst hn
        simp only [beq_self_eq_true, cond_true] at h
        injection h with h
        injection h with h
        subst h
        refine ⟨0, e.val, ?_, rfl⟩
        simp [Instr.findNow, Instr.sameNow, k1]
      have hb : (n == m) = false := by simpa using hn
      rw [hb] at h
      simp only [cond_false] at h
      obtain ⟨j, v, q1, q2⟩ := findNow_at (i + 1) h k2 m2
      have hs : Instr.findNow (.int k) (.int k n) (e :: l) i = Instr.findNow (.int k) (.int k n) l (i + 1) := by
        simp [Instr.findNow, Instr.sameNow, k1, hb]
      exact ⟨j + 1, v, by rw [hs, q1]; congr 3; omega, by simpa using q2⟩
    simp [hk] at h
section
variable {C : Ctx} {env : List D} {H H' : Heap} {dst : Option Tmp} {ty : TypeId} {pos : String} {aft : Array Edge} {gd : Option (Nat × Bool)} {x y z : Operand} {d : D} {T kt et : TypeId}
theorem ZfP {i : Nat} {k : IntKind} {n : Int} {es : List (D × D)} {op : Op} (hop : op = .insert T x y z ∨ op = .mapUpdate T x y z) (hm : C.P.underlying T = some (.map kt et)) (hk : C.P.underlying kt = some (.int k)) (hx : evO C env x = some (.mapp i)) (hy : evO C env y = some (.int k n)) (hz : evO C env z = some d) (ho : H[i]? = some (mapO es)) (hf : findI k n es = some (some d)) :
    OpN C ⟨dst, op, ty, pos, aft, gd⟩ env H (.tup []) H := by
  refine ⟨fun L0 w μ a hs hv => ?_⟩
  have ex := evO_ok hs hv hx
  have ey := evO_ok hs hv hy
  have ez := evO_ok hs hv hz
  simp only [VR] at ex ey
  obtain ⟨b, hb, ex⟩ := ex
  obtain ⟨_, ea, clock, k1, k2, k3⟩ := (hs.obj i _ b ho hb).spec rfl
  obtain ⟨j, v, hfn, hj⟩ := findNow_at 0 hf k2 k3
  rw [Nat.zero_add] at hfn
  have hlen : ea.size = es.length := by have := VRs_length k2; simpa using this
  have hjl : j < ea.size := by rw [hlen]; exact (List.getElem?_eq_some_iff.1 hj).1
  have hrun : (execOp a.eval ⟨dst, op, ty, pos, aft, gd⟩).run C.P w = .ok .skip (putB w b (.map (ea.modify j fun e => { e with key := .int k n, val := a.eval z }) clock)) := by
    have hmu : (Instr.mapUpdate T (.map (some b)) (.int k n) (a.eval z)).run C.P w = .ok () (putB w b (.map (ea.modify j fun e => { e with key := .int k n, val := a.eval z }) clock)) := by
      have hg : (getObj b).run C.P w = .ok (.map ea clock) w := by simp [getObj, Sem.run, k1]
      have hset : ∀ o, (setObj b o).run C.P w = .ok () (putB w b o) := by intro o; simp [setObj, Sem.run, k1, putB]
      obtain ⟨u, hu1, hu2⟩ := VRs_get k2 (j := j) (d := .int k n) (by rw [List.getElem?_map, hj]; rfl)
      simp only [VR] at hu2
      subst hu2
      have hkey : (((ea[j]?).map (·.key)).getD (.int k n)) = .int k n := by
        rw [List.getElem?_map, Array.getElem?_toList] at hu1
        rw [hu1]; rfl
      have hst : (Instr.keyThatStays (.int k n) (.int k n)).run C.P w = .ok (.int k n) w := by
        have hsb : Instr.sameBits (9999 + 1) (.int k n) (.int k n) = true := by simp [Instr.sameBits]
        simp [Instr.keyThatStays, hsb]
      simp only [Instr.mapUpdate, Sem.run_bind, run_underlying hm, Result.andThen_ok, hg, run_checkKey_int hk, run_findKeyV hk hfn, hkey, hst, hset]
    rcases hop with rfl | rfl <;> simp only [execOp, ex, ey, Sem.run_bind, hmu, Result.andThen_ok, Sem.run_pure]
  unfold Oper.wp
  rw [hrun]
  have hset : H.set i (mapO es) = H := by
    apply List.ext_getElem?
    intro m
    rw [List.getElem?_set]
    split
    · rename_i e; subst e; rw [ho, if_pos (List.getElem?_eq_some_iff.1 ho).1]
    rfl
  obtain ⟨s1, e1⟩ := hs.putS (x' := mapO es) (ob := .map (ea.modify j fun e => { e with key := .int k n, val := a.eval z }) clock) ho hb rfl (by simp) fun o' e => by
    injection e with e
    subst e
    refine ⟨rfl, rfl, rfl, .of_spec rfl ⟨rfl, _, _, putB_same (hs.block_lt ho hb), ?_, ?_⟩⟩
    · refine VRs_mk (by simp [hlen]) fun m d' v' h1 h2 => ?_
      rw [List.getElem?_map, Array.getElem?_toList, Array.getElem?_modify] at h2
      by_cases hm2 : j = m
      · subst hm2
        rw [if_pos rfl] at h2
        rw [List.getElem?_map, hj] at h1
        injection h1 with h1
        subst h1
        cases q : ea[j]? with
        | none => rw [q] at h2; cases h2
        | some e0 => rw [q] at h2; injection h2 with h2; subst h2; simp only [VR]
      rw [if_neg hm2] at h2
      obtain ⟨u, hu1, hu2⟩ := VRs_get k2 h1
      rw [List.getElem?_map, Array.getElem?_toList, h2] at hu1
      injection hu1 with hu1
      subst hu1; exact hu2
    refine VRs_mk (by simp [hlen]) fun m d' v' h1 h2 => ?_
    rw [List.getElem?_map, Array.getElem?_toList, Array.getElem?_modify] at h2
    by_cases hm2 : j = m
    · subst hm2
      rw [if_pos rfl] at h2
      rw [List.getElem?_map, hj] at h1
      injection h1 with h1
      subst h1
      cases q : ea[j]? with
      | none => rw [q] at h2; cases h2
      | some e0 => rw [q] at h2; injection h2 with h2; subst h2; exact ez
    rw [if_neg hm2] at h2
    obtain ⟨u, hu1, hu2⟩ := VRs_get k3 h1
    rw [List.getElem?_map, Array.getElem?_toList, h2] at hu1
    injection hu1 with hu1
    subst hu1; exact hu2
  rw [hset] at s1 e1
  exact ⟨undef, .tup [], _, μ, ⟨rfl, rfl⟩, rfl, s1, by simp only [VR]; exact ⟨[], rfl, by simp [VRs]⟩, e1⟩
theorem Zgn {i : Nat} {es : List (D × D)} (hm : C.P.underlying T = some (.map kt et)) (hx : evO C env x = some (.mapp i)) (ho : H[i]? = some (mapO es)) : OpQ C ⟨dst, .call ⟨.builtin .len, #[x], #[T]⟩, ty, pos, aft, gd⟩ env H (.int .i64 es.length) :=
  OpQ.of_runS fun L0 w μ a hs he => by
    have ex := he _ _ hx
    simp only [VR] at ex
    obtain ⟨b, hb, ex⟩ := ex
    obtain ⟨_, ea, clock, k1, k2, k3⟩ := (hs.obj i _ b ho hb).spec rfl
    have hlen : ea.size = es.length := by have := VRs_length k2; simpa using this
    refine ⟨.int .i64 es.length, ?_, by simp only [VR]⟩
    have hg : (getObj b).run C.P w = .ok (.map ea clock) w := by simp [getObj, Sem.run, k1]
    simp [execOp, resolve, invoke, builtin, ex, Builtin.len_, run_underlying hm, hg, hlen, goInt]
end
end Go.V
