/- Rules for steps and contracts of functions, each proved; no condition. -/
import Derived.Test.YtaglofmanchabaaGreatDoorA03
import Derived.Maps.AppendAt
import Derived.WalkSpells
set_option linter.unusedVariables false
set_option linter.unusedSimpArgs false
set_option linter.unnecessarySimpa false
set_option synthInstance.maxHeartbeats 2000000
set_option synthInstance.maxSize 100000
namespace Go.V
open Go.RowKit
class PutL {α : Type} (l : List α) (i : Nat) (a : α) (l' : outParam (List α)) : Prop where
  eq : l.set i a = l'
instance PutL.zero {α : Type} {a b : α} {l : List α} : PutL (a :: l) 0 b (b :: l) := ⟨rfl⟩
instance PutL.succ {α : Type} {a b : α} {l l' : List α} {n : Nat} [h : PutL l n b l'] : PutL (a :: l) (n + 1) b (a :: l') := ⟨by simp [h.eq]⟩
class AppL {α : Type} (l : List α) (a : α) (n : outParam Nat) (l' : outParam (List α)) : Prop where
  len : l.length = n
  eq : l ++ [a] = l'
section
variable {α : Type} {a b c d e f g h i : α}
instance AppL.a0 : AppL [] a 0 [a] := ⟨rfl, rfl⟩
instance AppL.a1 : AppL [b] a 1 [b, a] := ⟨rfl, rfl⟩
instance AppL.a2 : AppL [b, c] a 2 [b, c, a] := ⟨rfl, rfl⟩
instance AppL.a3 : AppL [b, c, d] a 3 [b, c, d, a] := ⟨rfl, rfl⟩
instance AppL.a4 : AppL [b, c, d, e] a 4 [b, c, d, e, a] := ⟨rfl, rfl⟩
instance AppL.a5 : AppL [b, c, d, e, f] a 5 [b, c, d, e, f, a] := ⟨rfl, rfl⟩
instance AppL.a6 : AppL [b, c, d, e, f, g] a 6 [b, c, d, e, f, g, a] := ⟨rfl, rfl⟩
end
class Puts (env : List D) (l : List (Nat × D)) (env' : outParam (List D)) : Prop where
  len : env.length = env'.length
instance Puts.nil {env : List D} : Puts env [] env := ⟨rfl⟩
instance Puts.cons {env e1 e2 : List D} {t : Nat} {d : D} {l : List (Nat × D)} [h1 : Put env (some t) d e1] [h2 : Puts e1 l e2] : Puts env ((t, d) :: l) e2 :=
  ⟨by have := h1.eq; have h3 := h2.len; simp only [Zu] at this; rw [← h3, ← this]; simp⟩
def OpN (C : Ctx) (o : Oper) (env : List D) (H : Heap) (d : D) (H' : Heap) : Prop := OpH C o env H (fun d' h' => d' = d ∧ h' = H') (fun _ _ => False)
section
variable {C : Ctx} {Q : Post} {ops : Array Oper} {rest : List Oper} {k : List Item} {env env' : List D} {H H' : Heap} {df : List ADef} {o : Oper}
variable {dst : Option Tmp} {op : Op} {ty : TypeId} {pos : String} {aft : Array Edge} {gd : Option (Nat × Bool)} {d : D} {t : Tmp} {x y z : Operand} {T e : TypeId} {te tee : TE}
theorem Za (hg : gOk ops.toList env o.guard = some true) (h : OpQ C o env H d) [hp : Put env o.dst d env'] (hk : AOps C Q ops rest k env' H df) : AOps C Q ops (o :: rest) k env H df :=
  AOps.op hg h (by rw [hp.eq]; exact hk)
theorem Zq (hg : gOk ops.toList env o.guard = some true) (h : OpN C o env H d H') [hp : Put env o.dst d env'] (hk : AOps C Q ops rest k env' H' df) : AOps C Q ops (o :: rest) k env H df :=
  ZnO hg h (fun d' h' ⟨h1, h2⟩ => by subst h1; subst h2; rw [hp.eq]; exact hk) (fun _ _ h => h.elim)
theorem y_skip (hg : gOk ops.toList env o.guard = some false) [hp : Put env o.dst (.tup []) env'] (hk : AOps C Q ops rest k env' H df) : AOps C Q ops (o :: rest) k env H df :=
  AOps.skip hg (by rw [hp.eq]; exact hk)
theorem AOps.bool {b : Bool} {e1 e2 : List D} (t : Nat) (hb : env[t]? = some (.bool b)) [h1 : PutL env t (.bool true) e1] [h2 : PutL env t (.bool false) e2] (k1 : b = true → AOps C Q ops rest k e1 H df) (k2 : b = false → AOps C Q ops rest k e2 H df) : AOps C Q ops rest k env H df := by
  have same : env.set t (.bool b) = env := by
    apply List.ext_getElem?;intro j;rw [List.getElem?_set]
    by_cases h : t = j
    · subst h; rw [hb]; simp; exact (List.getElem?_eq_some_iff.1 hb).1
    simp [h]
  cases b with
  | true => have := h1.eq; rw [same] at this; rw [this]; exact k1 rfl
  | false => have := h2.eq; rw [same] at this; rw [this]; exact k2 rfl
theorem Znz {c : Operand} {u v : Code} (hc : evO C env c = some (.bool true)) (hx : ARun C Q (.code u :: k) env H df) : ARun C Q (.code (.cond c u v) :: k) env H df :=
  ARun.cond hc (fun _ => hx) (fun h => by cases h)
theorem Znx {c : Operand} {u v : Code} (hc : evO C env c = some (.bool false)) (hx : ARun C Q (.code v :: k) env H df) : ARun C Q (.code (.cond c u v) :: k) env H df :=
  ARun.cond hc (fun h => by cases h) (fun _ => hx)
theorem Znp {c : Operand} {u v : Code} {p : Prop} [dp : Decidable p] (hc : evO C env c = some (.bool (decide p))) (hx : p → ARun C Q (.code u :: k) env H df) (hy : ¬ p → ARun C Q (.code v :: k) env H df) : ARun C Q (.code (.cond c u v) :: k) env H df :=
  ARun.cond hc (fun h => hx (of_decide_eq_true h)) (fun h => hy (of_decide_eq_false h))
theorem ZnR {S : Type} {c : Code} {E : S → List D} (cs : S → List (Nat × D)) (HS : S → Heap) (Inv : S → Prop) (ms : S → Nat) (s0 : S) [hE : ∀ s, Puts env (cs s) (E s)] (h0 : Inv s0) (hle : ZcU env (E s0)) (hH : H = HS s0)
    (step : ∀ s, Inv s → (∀ s', Inv s' → ms s' < ms s → ARun C Q (.inLoop c :: k) (E s') (HS s') df) → ARun C Q (.code c :: .inLoop c :: k) (E s) (HS s) df) : ARun C Q (.code (.loop c) :: k) env H df := by
  have key : ∀ (n : Nat) (s : S), ms s < n → Inv s → ARun C Q (.code c :: .inLoop c :: k) (E s) (HS s) df := by
    intro n
    induction n with
    | zero => intro s h; omega
    | succ n ih =>
      intro s hn hi
      exact step s hi fun s' hi' hlt => ARun.inLoop (ih s' (by omega) hi')
  rw [hH];exact ARun.loop (ARun.env hle (key _ s0 (Nat.lt_succ_self _) h0))
theorem ZnC {env1 : List D} {H1 : Heap} (h : ARun C Q k env1 H1 df) (hle : ZcU env env1) (hH : H = H1) : ARun C Q k env H df := by
  rw [hH]; exact ARun.env hle h
theorem Zdu {ds : List D} {n : Nat} [ap : AppL H (some ⟨ds, T, 1, true, none⟩) n H'] (hx : evO C env x = some d) (hd : Z7 d = some ds) (hok : ds.all (Zai H) = true) : OpN C ⟨dst, .box T x, ty, pos, aft, gd⟩ env H (.ptr n 0) H' := by
  have h := o_box (C := C) (dst := dst) (ty := ty) (pos := pos) (aft := aft) (gd := gd) (T := T) hx hd hok;unfold OpN;rw [← ap.len, ← ap.eq];exact h
theorem Zne {dz : D} {ds : List D} {n : Nat} [ap : AppL H (some ⟨ds, T, 1, true, none⟩) n H'] (ht : C.ty T = some te) (hz : Zas te.zero = some dz) (hd : Z7 dz = some ds) (hok : ds.all (Zai H) = true) : OpN C ⟨dst, .alloc T, ty, pos, aft, gd⟩ env H (.ptr n 0) H' := by
  have h := Zna (C := C) (env := env) (dst := dst) (ty := ty) (pos := pos) (aft := aft) (gd := gd) (T := T) (ZU ht).1 hz hd hok;unfold OpN;rw [← ap.len, ← ap.eq];exact h
theorem ZaG {ik ik' : IntKind} {n : Nat} {m m' : Int} {dz : D} {S b bE i : Nat} {zv zE : Value} {kE : TK} {zs : List D} [ap : AppL H (some ⟨zs, e, 1, true, none⟩) i H'] (hx : evO C env x = some (.int ik m)) (hy : evO C env y = some (.int ik' m')) (ht : C.ty T = some ⟨.slice e, S, b, zv⟩) (hee : C.ty e = some ⟨kE, 1, bE, zE⟩) (hz : ZbU zE = some dz) (hm : m = n) (hm' : m' = n) (hb : bE * n ≤ 281474976710656) (hM : n ≤ maxLen) (hzs : Zdr dz n = zs) :
    OpN C ⟨dst, .makeSlice T x y, ty, pos, aft, gd⟩ env H (.row i n) H' := by
  subst hm; subst hm'; subst hzs;have h := Zk6 (C := C) (H := H) (dst := dst) (ty := ty) (pos := pos) (aft := aft) (gd := gd) (Zax ht) (ZU hee).1 hz hx hy hb hM;unfold OpN;rw [← ap.len, ← ap.eq];exact h
theorem Z9 {n i S b : Nat} {zv : Value} {zs cs : List D} {dz : D} {parts : List (Nat × Operand)} {ps : List (Nat × D)} (ht : C.ty T = some ⟨.slice e, S, b, zv⟩) (hee : C.ty e = some tee) (hz : Zas tee.zero = some dz) (hzs : Z7 dz = some zs) (hzk : zs.all (Zai H) = true) (hzl : zs.length = tee.size)
    (hps : (parts.mapM fun p => (evO C env p.2).map fun d => (p.1, d)) = some ps) (hok : Zel H ps = true) (hf : ZfK (fun i => some (i * tee.size, tee.size)) (List.flatten (List.replicate n zs)) ps = some cs) (hck : cs.all (Zai H) = true) (hcl : cs.length = n * tee.size) (hn : n * tee.size ≤ 16777216) (h0 : 0 < tee.size) [ap : AppL H (some ⟨cs, e, tee.size, true, none⟩) i H'] : OpN C ⟨dst, .buildSlice T n parts.toArray, ty, pos, aft, gd⟩ env H (.row i n) H' := by
  have h := Zkz (C := C) (H := H) (dst := dst) (ty := ty) (pos := pos) (aft := aft) (gd := gd) (Zax ht) (ZU hee).1 hz hzs hzk hzl hps hok hf hck hcl hn h0;unfold OpN;rw [← ap.len, ← ap.eq];exact h
theorem Zad {i off : Nat} {ob : AObj} {kt : TK} {b : Nat} {zv : Value} {cs : List D} [pl : PutL H i (some { ob with cells := cs }) H'] (hx : evO C env x = some (.ptr i off)) (hy : evO C env y = some d) (ht : C.ty T = some ⟨kt, 1, b, zv⟩) (hok : Zai H d = true) (ho : H[i]? = some (some ob)) (hl : ob.live = true) (hoff : off < ob.cells.length) (hcs : ob.cells.set off d = cs) :
    OpN C ⟨dst, .store T x y, ty, pos, aft, gd⟩ env H (.tup []) H' := by
  subst hcs;have h := ZmI (C := C) (dst := dst) (ty := ty) (pos := pos) (aft := aft) (gd := gd) (ZU ht).1 hx hy hok ho hl hoff;unfold OpN;rw [← pl.eq];exact h
theorem Zb2 {i off : Nat} {ob : AObj} {ds cs : List D} [pl : PutL H i (some { ob with cells := cs }) H'] (hx : evO C env x = some (.ptr i off)) (hy : evO C env y = some d) (ht : C.ty T = some te) (hc : Z7 d = some ds) (hn : ds.length = te.size) (hok : ds.all (Zai H) = true) (ho : H[i]? = some (some ob)) (hl : ob.live = true) (hoff : off + ds.length ≤ ob.cells.length) (hcs : Zfv ob.cells off ds = cs) (hsp : ob.sp = none := by rfl) :
    OpN C ⟨dst, .store T x y, ty, pos, aft, gd⟩ env H (.tup []) H' := by
  subst hcs;have h := ZmJ (C := C) (dst := dst) (ty := ty) (pos := pos) (aft := aft) (gd := gd) (ZU ht).1 hx hy hc hn hok ho hl hoff hsp;unfold OpN;rw [← pl.eq];exact h
theorem FzL.sames : ∀ {H : Heap} (ds : List D), FzL H ds ds []
  | _, [] => .nil
  | H, d :: ds => by have := FzL.cons (Fz.same (H := H) d) (FzL.sames ds); simpa using this
theorem Zb {f : FuncId} {caps ds : List D} {args : List Operand} {tys : Array TypeId} (hx : evO C env x = some (.clos f caps)) (ha : evOs C env args = some ds) (hc : PC C f (ds ++ caps) (fun o => o = .ret d)) : OpQ C ⟨dst, .call ⟨.value x, args.toArray, tys⟩, ty, pos, aft, gd⟩ env H d :=
  OpH.mono (fun d' H' ⟨h1, h2⟩ => by injection h2 with h2; exact ⟨h2, h1⟩) (fun d' H' ⟨_, h2⟩ => by cases h2) (ZhN (H := H) (ids := []) hx ha (FzL.sames _) (hc H))
theorem ZQ {f : FuncId} {caps ds : List D} {args : List Operand} {tys : Array TypeId} {g : Prop} {KP : D → Prop} (hx : evO C env x = some (.clos f caps)) (ha : evOs C env args = some ds) (hc : PC C f (ds ++ caps) (fun o => (g ∧ o = .ret d) ∨ ∃ p, KP p ∧ o = .pan p)) : OpG C ⟨dst, .call ⟨.value x, args.toArray, tys⟩, ty, pos, aft, gd⟩ env H d g KP :=
  OpH.mono (fun d' H' ⟨h1, h2⟩ => by
    rcases h2 with ⟨h2, h3⟩ | ⟨p, _, h3⟩
    · injection h3 with h3; exact ⟨h2, h3, h1⟩
    · cases h3) (fun d' H' ⟨h1, h2⟩ => by
    rcases h2 with ⟨h2, h3⟩ | ⟨p, h2, h3⟩
    · cases h3
    injection h3 with h3; subst h3; exact ⟨h2, h1⟩) (ZhN (ids := []) hx ha (FzL.sames _) (hc H))
theorem Zcm {f : FuncId} {caps ds ds' : List D} {ids : List Nat} {args : List Operand} {tys : Array TypeId} (hx : evO C env x = some (.clos f caps)) (ha : evOs C env args = some ds) (hz : FzL H (ds ++ caps) ds' ids) (hc : PC C f ds' (fun o => o = .ret d)) (hH : frz H ids = H') : OpN C ⟨dst, .call ⟨.value x, args.toArray, tys⟩, ty, pos, aft, gd⟩ env H d H' := by
  subst hH;exact OpH.mono (fun d' H' ⟨h1, h2⟩ => by injection h2 with h2; exact ⟨h2, h1⟩) (fun d' H' ⟨_, h2⟩ => by cases h2) (ZhN hx ha hz (hc _))
theorem PC.run {f : FuncId} {fn : Func} {c : Code} {args : List D} {r : Out → Prop} {n : Nat} (hf : C.P.funcs[f]? = some fn) (hen : Enters C.P f) (hb : fn.body = some c) (hn : fn.ntmps = n) (hp : D.pure.pures args = true) {rs : List ResultVar} (hrs : fn.results.toList = rs) {env0 : List D} (he : args ++ List.replicate (n - args.length) (.tup []) = env0)
    (h : ARun C (QFin C rs (fun o _ => o.pure = true ∧ r o)) [.code c] env0 [] []) : PC C f args r := by
  subst hrs; subst he;exact Zn0 (HC.of_run hf hen hb hn h) hp
end
abbrev nts (k : IntKind) (xs : List Nat) : List D := xs.map fun (n : Nat) => D.int k (n : Int)
abbrev sln (k : IntKind) (xs : List Nat) : D := .sl xs.length (nts k xs)
theorem ZT {k : IntKind} : ∀ xs : List Nat, D.pure.pures (nts k xs) = true
  | [] => rfl
  | _ :: xs => by simp only [nts, List.map_cons, D.pure.pures, D.pure, Bool.true_and]; exact ZT xs
theorem Zam {k : IntKind} {xs : List Nat} (h : 0 < xs.length) : nts k xs ≠ [] := by
  intro e;have : xs = [] := List.map_eq_nil_iff.1 e;subst this;simp at h
theorem Zb8 {k : IntKind} {xs : List Nat} {i : Nat} (h : i < xs.length) : ((nts k xs).drop i)[0]? = some (D.int k (xs.getD i 0 : Nat)) := by
  simp [nts, List.getElem?_drop, h]
theorem ZdP {k : IntKind} {xs : List Nat} {i : Nat} (h : i < xs.length) : (nts k xs)[i]? = some (D.int k (xs.getD i 0 : Nat)) := by
  simp [nts, h]
theorem Zbi {k : IntKind} {xs : List Nat} {i v : Nat} : (nts k xs).set i (D.int k (v : Int)) = nts k (xs.set i v) := by
  simp [nts, List.map_set]
theorem Za0 {k : IntKind} (n : Nat) : Zdr (.int k 0) n = nts k (List.replicate n 0) := by
  simp [Zdr, nts]
theorem Zag : ZcU [] [] := trivial
theorem Zah {d : D} {ds es : List D} (h : ZcU ds es) : ZcU (d :: ds) (.any :: es) := ⟨.inr rfl, h⟩
theorem Z4 {d : D} {ds es : List D} (h : ZcU ds es) : ZcU (d :: ds) (d :: es) := ⟨.inl rfl, h⟩
def U32 (xs : List Nat) : Prop := ∀ x ∈ xs, x < 4294967296
theorem U32.get {xs : List Nat} (h : U32 xs) (i : Nat) : xs.getD i 0 < 4294967296 := by
  rw [List.getD_eq_getElem?_getD]
  cases hi : xs[i]? with
  | none => simp
  | some x => simpa using h x (List.mem_of_getElem? hi)
theorem getD_ge {xs : List Nat} {i : Nat} (h : xs.length ≤ i) : xs.getD i 0 = 0 := by
  rw [List.getD_eq_getElem?_getD, List.getElem?_eq_none h]; rfl
theorem ZnG {C : Ctx} {Q : Post} {k : List Item} {env : List D} {H : Heap} {df : List ADef} (t : Nat) {n : Nat} {cs : List D} (ht : env[t]? = some (.sl n cs)) (hk : n ≤ maxLen → ARun C Q k env H df) : ARun C Q k env H df := by
  refine ⟨fun L0 w0 μ0 H0 w μ a hs hv hd he b c => ?_⟩;obtain ⟨v, h1, h2⟩ := Z2 hv ht;simp only [VR] at h2;obtain ⟨ad, cap, _, h3, h4, _⟩ := h2;exact (hk (Nat.le_trans h3 h4)).out L0 w0 μ0 H0 w μ a hs hv hd he b c
theorem Zdc {k : IntKind} {xs : List Nat} {lo hi : Nat} : ((nts k xs).take (hi * 1)).drop (lo * 1) = nts k ((xs.take hi).drop lo) := by
  rw [Nat.mul_one, Nat.mul_one, nts, nts, List.map_drop, List.map_take]
theorem Zy : maxLen = 9223372036854775807 := rfl
theorem bnd_int {C : Ctx} {env : List D} {x : Operand} {ik : IntKind} {i : Int} {d : Nat} (h : evO C env x = some (.int ik i)) (h0 : 0 ≤ i) : bndO C env d (some x) = some i.toNat := by
  simp only [bndO, h, h0, if_true]
theorem Zg5 {C : Ctx} {env : List D} {x : Operand} {ik : IntKind} {i : Int} {d n : Nat} (h : evO C env x = some (.int ik i)) (h0 : i = n) : bndO C env d (some x) = some n := by
  rw [bnd_int h (by omega)]; simp [h0]
theorem Zaf {m n : Nat} (h : m + n ≤ 18446744073709551615) : IntKind.u64.wrap ((m : Int) + (n : Int)) = ((m + n : Nat) : Int) := by
  rw [IntWalk.u64_in _ (by omega)]; simp
theorem Zdv {m n : Nat} (h : m * n ≤ 18446744073709551615) : IntKind.u64.wrap ((m : Int) * (n : Int)) = ((m * n : Nat) : Int) := by
  rw [← Int.natCast_mul, IntWalk.u64_in _ (by omega)]
theorem Zeb {m n : Nat} (h : n ≤ m) (h2 : m ≤ 18446744073709551615) : IntKind.u64.wrap ((m : Int) - (n : Int)) = ((m - n : Nat) : Int) := by
  rw [IntWalk.u64_in _ (by omega)]; omega
theorem Z1 {m n : Nat} (h : m + n ≤ 9223372036854775807) : IntKind.i64.wrap ((m : Int) + (n : Int)) = ((m + n : Nat) : Int) := by
  rw [IntWalk.i64_in _ (by omega)]; simp
theorem ZaD {m n : Nat} (h : m * n ≤ 9223372036854775807) : IntKind.i64.wrap ((m : Int) * (n : Int)) = ((m * n : Nat) : Int) := by
  rw [← Int.natCast_mul, IntWalk.i64_in _ (by omega)]
theorem Zc3 {m n : Nat} (h : n ≤ m) (h2 : m ≤ 9223372036854775807) : IntKind.i64.wrap ((m : Int) - (n : Int)) = ((m - n : Nat) : Int) := by
  rw [IntWalk.i64_in _ (by omega)]; omega
theorem Zi {m : Nat} (h : m + 1 ≤ 9223372036854775807) : IntKind.i64.wrap ((m : Int) + 1) = ((m + 1 : Nat) : Int) := by
  rw [IntWalk.i64_in _ (by omega)]; omega
theorem ZX {n : Nat} : IntKind.u32.wrap (n : Int) = ((n % 4294967296 : Nat) : Int) := by rw [IntKind.wrap_u32]; omega
theorem Zt {n : Nat} (h : n ≤ 18446744073709551615) : IntKind.u64.wrap (n : Int) = ((n : Nat) : Int) := IntWalk.u64_in _ (by omega)
theorem ZeO {n : Nat} (h : n ≤ 9223372036854775807) : IntKind.i64.wrap (n : Int) = ((n : Nat) : Int) := IntWalk.i64_in _ (by omega)
theorem Zcn {m : Nat} : (m : Int).fdiv (2 ^ min (32 : Int).toNat IntKind.u64.bits) = ((m / 4294967296 : Nat) : Int) := by
  have : (2 : Int) ^ min (32 : Int).toNat IntKind.u64.bits = 4294967296 := by decide
  rw [this, Int.fdiv_eq_ediv_of_nonneg _ (by omega)]; omega
theorem nmax {m n : Nat} : max (m : Int) (n : Int) = ((max m n : Nat) : Int) := by omega
theorem nmin {m n : Nat} : min (m : Int) (n : Int) = ((min m n : Nat) : Int) := by omega
section
variable {C : Ctx} {env : List D} {H : Heap} {dst : Option Tmp} {ty : TypeId} {pos : String} {aft : Array Edge} {gd : Option (Nat × Bool)} {x y : Operand}
theorem q_maxR {ik : IntKind} {m n r : Int} {t t' : TypeId} (hx : evO C env x = some (.int ik m)) (hy : evO C env y = some (.int ik n)) (hr : max m n = r) : OpQ C ⟨dst, .call ⟨.builtin .max, #[x, y], #[t, t']⟩, ty, pos, aft, gd⟩ env H (.int ik r) := by
  subst hr; exact Zif hx hy
theorem ZhR {ik : IntKind} {m n r : Int} {t t' : TypeId} (hx : evO C env x = some (.int ik m)) (hy : evO C env y = some (.int ik n)) (hr : min m n = r) : OpQ C ⟨dst, .call ⟨.builtin .min, #[x, y], #[t, t']⟩, ty, pos, aft, gd⟩ env H (.int ik r) := by
  subst hr; exact Zgt hx hy
end
theorem Zab {x : Int} {i : Nat} (h : x = (i : Int)) : x.toNat * 1 = i := by subst h; simp
theorem ZM {α : Type} {l : List α} {x : Int} {i : Nat} (h : x = (i : Int)) : l.drop (x.toNat * 1) = l.drop i := by subst h; simp
theorem ZY {m : Nat} (h : 1 ≤ m) (h2 : m ≤ 9223372036854775807) : IntKind.i64.wrap ((m : Int) - 1) = ((m - 1 : Nat) : Int) := by
  rw [IntWalk.i64_in _ (by omega)]; omega
section
variable {C : Ctx} {Q : Post} {ops : Array Oper} {rest : List Oper} {k : List Item} {env env' : List D} {H H' : Heap} {df : List ADef} {dst : Option Tmp} {ty : TypeId} {pos : String} {aft : Array Edge} {gd : Option (Nat × Bool)} {d : D} {x y z : Operand} {T e : TypeId} {te : TE}
theorem Zr [hp : Put env dst d env'] (hk : AOps C Q ops rest k env' H df) (hg : gOk ops.toList env gd = some true := by rfl) (h : evO C env x = some d := by rfl) : AOps C Q ops (⟨dst, .move x, ty, pos, aft, gd⟩ :: rest) k env H df := Za hg (ZaH h) hk
theorem zza [hp : Put env dst d env'] (hk : AOps C Q ops rest k env' H df) (hg : gOk ops.toList env gd = some true := by rfl) (h : evO C env x = some d := by rfl) : AOps C Q ops (⟨dst, .assign x, ty, pos, aft, gd⟩ :: rest) k env H df := Za hg (Za4 h) hk
theorem ZK {b : Bool} {d1 d2 : D} [hp : Put env dst d env'] (hk : AOps C Q ops rest k env' H df) (hg : gOk ops.toList env gd = some true := by rfl) (h : evO C env x = some (.bool b) := by rfl) (h1 : evO C env y = some d1 := by rfl) (h2 : evO C env z = some d2 := by rfl) (hd : (bif b then d1 else d2) = d := by rfl) : AOps C Q ops (⟨dst, .pick x y z, ty, pos, aft, gd⟩ :: rest) k env H df := Za hg (Zaw h h1 h2 hd) hk
theorem zzi {bop : BinOp} {ik : IntKind} {m n : Int} {xt yt : TypeId} [hp : Put env dst d env'] (hk : AOps C Q ops rest k env' H df) (hg : gOk ops.toList env gd = some true := by rfl) (hx : evO C env x = some (.int ik m) := by rfl) (hy : evO C env y = some (.int ik n) := by rfl) (h : ZfH bop ik m n = some d := by rfl) : AOps C Q ops (⟨dst, .binOp bop xt x y yt, ty, pos, aft, gd⟩ :: rest) k env H df := Za hg (Zaa hx hy h) hk
theorem zze {cs : List D} {i : Nat} [hp : Put env dst d env'] (hk : AOps C Q ops rest k env' H df) (hg : gOk ops.toList env gd = some true := by rfl) (hx : evO C env x = some (.tup cs) := by rfl) (hi : cs[i]? = some d := by rfl) : AOps C Q ops (⟨dst, .extract x i, ty, pos, aft, gd⟩ :: rest) k env H df := Za hg (ZD hx hi) hk
theorem zzl {cs : List D} [hp : Put env dst d env'] (hk : AOps C Q ops rest k env' H df) (hg : gOk ops.toList env gd = some true := by rfl) (hx : evO C env x = some (.sptr cs) := by rfl) (ht : C.ty T = some te := by rfl) (ha : aggK te.k = false := by rfl) (hd : cs[0]? = some d := by rfl) : AOps C Q ops (⟨dst, .load T x, ty, pos, aft, gd⟩ :: rest) k env H df := Za hg (ZP hx ht ha hd) hk
theorem zzL {cs ds : List D} [hp : Put env dst (.agg ds) env'] (hk : AOps C Q ops rest k env' H df) (hg : gOk ops.toList env gd = some true := by rfl) (hx : evO C env x = some (.sptr cs) := by rfl) (ht : C.ty T = some te := by rfl) (ha : aggK te.k = true := by rfl) (hd : cs.take te.size = ds := by rfl) (hl : ds.length = te.size := by rfl) : AOps C Q ops (⟨dst, .load T x, ty, pos, aft, gd⟩ :: rest) k env H df := Za hg (Ze hx ht ha hd hl) hk
theorem zzn {b : Bool} {xt : TypeId} [hp : Put env dst (.bool (!b)) env'] (hk : AOps C Q ops rest k env' H df) (hg : gOk ops.toList env gd = some true := by rfl) (hx : evO C env x = some (.bool b) := by rfl) : AOps C Q ops (⟨dst, .unOp .not xt x, ty, pos, aft, gd⟩ :: rest) k env H df := Za hg (Zie hx) hk
theorem zzf {f o sz S b : Nat} {cs : List D} {zv : Value} {pl : List (Nat × Nat)} [hp : Put env dst (.sptr (cs.drop o)) env'] (hk : AOps C Q ops rest k env' H df) (hg : gOk ops.toList env gd = some true := by rfl) (hx : evO C env x = some (.sptr cs) := by rfl) (hs : C.ty T = some ⟨.struct pl, S, b, zv⟩ := by rfl) (hf : pl[f]? = some (o, sz) := by rfl) (h0 : sz ≠ 0 := by decide) : AOps C Q ops (⟨dst, .fieldAddr T x f, ty, pos, aft, gd⟩ :: rest) k env H df := Za hg (Zb7 hx hs hf h0) hk
theorem zzN {n S b : Nat} {cs : List D} {zv : Value} [hp : Put env dst (.int .i64 n) env'] (hk : AOps C Q ops rest k env' H df) (hg : gOk ops.toList env gd = some true := by rfl) (hx : evO C env x = some (.sl n cs) := by rfl) (ht : C.ty T = some ⟨.slice e, S, b, zv⟩ := by rfl) : AOps C Q ops (⟨dst, .call ⟨.builtin .len, #[x], #[T]⟩, ty, pos, aft, gd⟩ :: rest) k env H df := Za hg (ZdJ hx ht) hk
theorem Zc {f : FuncId} {caps ds : List D} {args : List Operand} {tys : Array TypeId} (hx : evO C env x = some (.clos f caps)) (ha : evOs C env args = some ds) (hc : PC C f (ds ++ caps) (fun o => o = .ret d)) [hp : Put env dst d env'] (hk : AOps C Q ops rest k env' H df) (hg : gOk ops.toList env gd = some true := by rfl) : AOps C Q ops (⟨dst, .call ⟨.value x, args.toArray, tys⟩, ty, pos, aft, gd⟩ :: rest) k env H df := Za hg (Zb hx ha hc) hk
theorem Zg {op : Op} [hp : Put env dst (.tup []) env'] (hk : AOps C Q ops rest k env' H df) (hg : gOk ops.toList env gd = some false := by rfl) : AOps C Q ops (⟨dst, op, ty, pos, aft, gd⟩ :: rest) k env H df := y_skip hg hk
theorem zzS {i off : Nat} {ob : AObj} {ds cs : List D} [pl : PutL H i (some { ob with cells := cs }) H'] [hp : Put env dst (.tup []) env'] (hk : AOps C Q ops rest k env' H' df) (hg : gOk ops.toList env gd = some true := by rfl) (hx : evO C env x = some (.ptr i off) := by rfl) (hy : evO C env y = some d := by rfl) (ht : C.ty T = some te := by rfl) (hc : Z7 d = some ds := by rfl) (hn : ds.length = te.size := by rfl) (hok : ds.all (Zai H) = true := by rfl) (ho : H[i]? = some (some ob) := by rfl) (hl : ob.live = true := by rfl) (hoff : off + ds.length ≤ ob.cells.length := by exact (Nat.le_of_ble_eq_true rfl)) (hcs : Zfv ob.cells off ds = cs := by rfl) (hsp : ob.sp = none := by rfl) : AOps C Q ops (⟨dst, .store T x y, ty, pos, aft, gd⟩ :: rest) k env H df := Zq hg (Zb2 hx hy ht hc hn hok ho hl hoff hcs hsp) hk
theorem zzT {i off : Nat} {ob : AObj} {kt : TK} {b : Nat} {zv : Value} {cs : List D} [pl : PutL H i (some { ob with cells := cs }) H'] [hp : Put env dst (.tup []) env'] (hk : AOps C Q ops rest k env' H' df) (hg : gOk ops.toList env gd = some true := by rfl) (hx : evO C env x = some (.ptr i off) := by rfl) (hy : evO C env y = some d := by rfl) (ht : C.ty T = some ⟨kt, 1, b, zv⟩ := by rfl) (hok : Zai H d = true := by rfl) (ho : H[i]? = some (some ob) := by rfl) (hl : ob.live = true := by rfl) (hoff : off < ob.cells.length := by exact (Nat.le_of_ble_eq_true rfl)) (hcs : ob.cells.set off d = cs := by rfl) : AOps C Q ops (⟨dst, .store T x y, ty, pos, aft, gd⟩ :: rest) k env H df := Zq hg (Zad hx hy ht hok ho hl hoff hcs) hk
theorem zzA {dz : D} {ds : List D} {n : Nat} [ap : AppL H (some ⟨ds, T, 1, true, none⟩) n H'] [hp : Put env dst (.ptr n 0) env'] (hk : AOps C Q ops rest k env' H' df) (hg : gOk ops.toList env gd = some true := by rfl) (ht : C.ty T = some te := by rfl) (hz : Zas te.zero = some dz := by rfl) (hd : Z7 dz = some ds := by rfl) (hok : ds.all (Zai H) = true := by rfl) : AOps C Q ops (⟨dst, .alloc T, ty, pos, aft, gd⟩ :: rest) k env H df := Zq hg (Zne ht hz hd hok) hk
theorem zzB {pl : List (Nat × Nat)} {S b : Nat} {zv : Value} {zs cs : List D} {parts : List (Nat × Operand)} {ps : List (Nat × D)} [hp : Put env dst (.agg cs) env'] (hk : AOps C Q ops rest k env' H df) (hg : gOk ops.toList env gd = some true := by rfl) (hs : C.ty T = some ⟨.struct pl, S, b, zv⟩ := by rfl) (hz : Zas zv = some (.agg zs) := by rfl) (hps : (parts.mapM fun p => (evO C env p.2).map fun d => (p.1, d)) = some ps := by rfl) (hok : Zel H ps = true := by rfl) (hf : ZfK (pl[·]?) zs ps = some cs := by rfl) : AOps C Q ops (⟨dst, .build T parts.toArray, ty, pos, aft, gd⟩ :: rest) k env H df := Za hg (Zal hs hz hps hok hf) hk
theorem zzF {i off f o sz S b : Nat} {zv : Value} {pl : List (Nat × Nat)} [hp : Put env dst (.ptr i (off + o)) env'] (hk : AOps C Q ops rest k env' H df) (hg : gOk ops.toList env gd = some true := by rfl) (hx : evO C env x = some (.ptr i off) := by rfl) (hs : C.ty T = some ⟨.struct pl, S, b, zv⟩ := by rfl) (hf : pl[f]? = some (o, sz) := by rfl) (h0 : sz ≠ 0 := by decide) : AOps C Q ops (⟨dst, .fieldAddr T x f, ty, pos, aft, gd⟩ :: rest) k env H df := Za hg (ZZ hx hs hf h0) hk
theorem zzG {i off : Nat} {o : AObj} [hp : Put env dst d env'] (hk : AOps C Q ops rest k env' H df) (hg : gOk ops.toList env gd = some true := by rfl) (hx : evO C env x = some (.ptr i off) := by rfl) (ht : C.ty T = some te := by rfl) (ha : aggK te.k = false := by rfl) (ho : H[i]? = some (some o) := by rfl) (hd : o.cells[off]? = some d := by rfl) : AOps C Q ops (⟨dst, .load T x, ty, pos, aft, gd⟩ :: rest) k env H df := Za hg (ZC hx ht ha ho hd) hk
theorem zzH {i off : Nat} {o : AObj} {ds : List D} [hp : Put env dst (.agg ds) env'] (hk : AOps C Q ops rest k env' H df) (hg : gOk ops.toList env gd = some true := by rfl) (hx : evO C env x = some (.ptr i off) := by rfl) (ht : C.ty T = some te := by rfl) (ha : aggK te.k = true := by rfl) (ho : H[i]? = some (some o) := by rfl) (hd : (o.cells.drop off).take te.size = ds := by rfl) (hl : ds.length = te.size := by rfl) : AOps C Q ops (⟨dst, .load T x, ty, pos, aft, gd⟩ :: rest) k env H df := Za hg (Zp hx ht ha ho hd hl) hk
theorem zzs {id : Nat} {l : List Oper} {y : Code} (h : AOps C Q l.toArray l (.code y :: k) env H df) : ARun C Q (.code (.seq (.region id l.toArray false) y) :: k) env H df := ARun.seq (ARun.region h)
theorem zzt {id : Nat} {l : List Oper} {y : Code} (h : AOps C Q l.toArray l (.code y :: k) env H df) : AOps C Q ops [] (.code (.seq (.region id l.toArray false) y) :: k) env H df := AOps.nil (ARun.seq (ARun.region h))
theorem zzu {id : Nat} {l : List Oper} (h : AOps C Q l.toArray l k env H df) : AOps C Q ops [] (.code (.region id l.toArray false) :: k) env H df := AOps.nil (ARun.region h)
end
section
variable {C : Ctx}
theorem PC.rn {f : FuncId} {fn : Func} {c : Code} {args : List D} {r : Out → Prop} {n : Nat} (hf : C.P.funcs[f]? = some fn) (hen : Enters C.P f) (hn : fn.ntmps = n) {rs : List ResultVar} (hrs : fn.results.toList = rs) {env0 : List D}
    (h : ARun C (QFin C rs (fun o _ => o.pure = true ∧ r o)) [.code c] env0 [] []) (hb : fn.body = some c := by rfl) (hp : D.pure.pures args = true := by rfl) (he : args ++ List.replicate (n - args.length) (.tup []) = env0 := by simp only [List.length_cons, List.length_nil, Nat.reduceAdd, Nat.reduceSub, List.replicate_succ, List.replicate_zero, List.cons_append, List.nil_append]; exact rfl) : PC C f args r := PC.run hf hen hb hn hp hrs he h
theorem ARun.ag {Q : Post} {k : List Item} {env env1 : List D} {H H1 : Heap} {df : List ADef} (h : ARun C Q k env1 H1 df) (hH : H = H1 := by rfl) (hle : ZcU env env1 := by (repeat' first | exact Zag | apply Zah | apply Z4)) : ARun C Q k env H df := ZnC h hle hH
theorem Znr {f : FuncId} {fn : Func} {c : Code} {args : List D} {r : Out → Prop} {n : Nat} {rs : List ResultVar} (hf : C.P.funcs[f]? = some fn) (hn : fn.ntmps = n) (hrs : fn.results = rs.toArray) {env0 : List D}
    (h : ARun C (QFin C rs (fun o _ => o.pure = true ∧ r o)) [.code c] env0 [] []) (hb : fn.body = some c := by rfl) (h1 : fn.body.isSome = true := by kernel_rfl) (h2 : (fn.name == "runtime.NumGoroutine") = false := by kernel_rfl) (hp : D.pure.pures args = true := by rfl) (he : args ++ List.replicate (n - args.length) (.tup []) = env0 := by simp only [List.length_cons, List.length_nil, Nat.reduceAdd, Nat.reduceSub, List.replicate_succ, List.replicate_zero, List.cons_append, List.nil_append]; exact rfl) : PC C f args r := PC.run hf (Enters.mk hf h1 h2) hb hn hp (by rw [hrs]) he h
theorem Zno {t : Tmp} {r : Out → Prop} {k : List Item} {env : List D} {H : Heap} {d : D} (h : r (.ret d)) (h1 : env[t]? = some d := by rfl) (h2 : (Out.ret d).pure = true := by rfl) : ARun C (QFin C [.tmp t] (fun o _ => o.pure = true ∧ r o)) (.code .ret :: k) env H [] := ARun.ret ⟨_, _, _, .tmp h1 .nil, .cons (.same _) .nil, h2, h⟩
theorem Znw {Q : Post} {k : List Item} {env : List D} {H : Heap} {df : List ADef} {S : Type} {c : Code} {E : S → List D} (cs : S → List (Nat × D)) (HS : S → Heap) (Inv : S → Prop) (ms : S → Nat) (s0 : S) [hE : ∀ s, Puts env (cs s) (E s)] (h0 : Inv s0)
    (step : ∀ s, Inv s → (∀ s', Inv s' → ms s' < ms s → ARun C Q (.inLoop c :: k) (E s') (HS s') df) → ARun C Q (.code c :: .inLoop c :: k) (E s) (HS s) df) (hle : ZcU env (E s0) := by (repeat' first | exact Zag | apply Zah | apply Z4)) (hH : H = HS s0 := by rfl) : ARun C Q (.code (.loop c) :: k) env H df := ZnR cs HS Inv ms s0 h0 hle hH step
end
theorem go {P P' : Prop} (k : P') (h : P' → P := by intro k; (repeat (first | refine Zr ?_ | refine zza ?_ | refine AOps.nil ?_ | refine ARun.seq ?_ | refine ARun.region ?_ | refine Zg ?_ | refine zzf ?_ | refine zzl ?_ | refine zze ?_ | refine zzF ?_ | refine zzG ?_ | refine zzN ?_ | refine ZK ?_ | refine zzi ?_ | refine zzS ?_ | refine zzL ?_ | refine zzH ?_ | refine zzB ?_ | refine zzn ?_ | refine zzT ?_ | refine zzA ?_ | refine ARun.skip ?_ | refine ARun.block ?_ | refine ARun.inBlock ?_)); exact k) : P := h k
section
variable {C : Ctx}
theorem ZnA {t u : Tmp} {r : Out → Prop} {k : List Item} {env : List D} {H : Heap} {d e : D} (h : r (.ret (tupD [d, e]))) (h1 : env[t]? = some d := by rfl) (h3 : env[u]? = some e := by rfl) (h2 : (Out.ret (tupD [d, e])).pure = true := by rfl) : ARun C (QFin C [.tmp t, .tmp u] (fun o _ => o.pure = true ∧ r o)) (.code .ret :: k) env H [] := ARun.ret ⟨_, _, _, .tmp h1 (.tmp h3 .nil), .cons (.same _) (.cons (.same _) .nil), h2, h⟩
end
theorem gn {P P' : Prop} (k : P') (h : P' → P := by intro k; (repeat (first | refine Zr ?_ | refine zza ?_ | refine AOps.nil ?_ | refine ARun.seq ?_ | refine ARun.region ?_ | refine Zg ?_ | refine zzf ?_ | refine zzl ?_ | refine zze ?_ | refine zzF ?_ | refine zzG ?_ | refine zzN ?_ | refine ZK ?_ | refine zzS ?_ | refine zzL ?_ | refine zzH ?_ | refine zzB ?_ | refine zzn ?_ | refine zzT ?_ | refine zzA ?_ | refine ARun.skip ?_ | refine ARun.block ?_ | refine ARun.inBlock ?_)); exact k) : P := h k
theorem ga {P P' : Prop} (k : P') (h : P' → P := by intro k; (repeat (first | refine Zr ?_ | refine zza ?_ | refine AOps.nil ?_ | refine ARun.seq ?_ | refine ARun.region ?_ | refine Zg ?_ | refine zzf ?_ | refine zzl ?_ | refine zze ?_ | refine zzF ?_ | refine zzG ?_ | refine zzN ?_ | refine ZK ?_ | refine zzi ?_ | refine zzS ?_ | refine zzL ?_ | refine zzH ?_ | refine zzB ?_ | refine zzn ?_ | refine zzT ?_ | refine ARun.skip ?_ | refine ARun.block ?_ | refine ARun.inBlock ?_)); exact k) : P := h k
theorem Zh {p : Prop} [Decidable p] (h : decide p = true) : p := of_decide_eq_true h
theorem Zj {p : Prop} [Decidable p] (h : decide p = false) : ¬ p := of_decide_eq_false h
theorem SR.regrow {C : Ctx} {L0 : Nat → Prop} {w w' : World} {μ : List Nat} {H : Heap} (hs : SR C L0 w μ H) {id b b' : Nat} {o o' : AObj} {cur' : Array Value} (ho : H[id]? = some (some o)) (hb : μ[id]? = some b) (hl : o.live = true) (hg : w.grownBy w' (some b))
    (hb' : b' = b ∨ b' = w.heap.size) (hc : w'.heap[b']? = some (.cells cur' o'.elem (0, 0))) (hlen : o'.cells.length ≤ cur'.size) (hcs : ∀ (j : Nat) (d : D), o'.cells[j]? = some d → ∃ v : Value, cur'[j]? = some v ∧ v.oneCell' = true ∧ VR w (forb L0 μ H) μ H d v) (hsp : o'.sp = none := by rfl) :
    SR C L0 w' (μ ++ [b']) (H.set id none ++ [some o']) ∧ Evo w w' μ (μ ++ [b']) H (H.set id none ++ [some o']) := by
  have hid : id < H.length := (List.getElem?_eq_some_iff.1 ho).1;have hbl : b < w.heap.size := hs.block_lt ho hb
  have hm : ∀ i k : Nat, μ[i]? = some k → (μ ++ [b'])[i]? = some k := fun i k h => by
    rw [List.getElem?_append_left (List.getElem?_eq_some_iff.1 h).1]; exact h
  have hcase : ∀ (i : Nat) (oi : AObj) (k : Nat), (H.set id none ++ [some o'])[i]? = some (some oi) → (μ ++ [b'])[i]? = some k → (i ≠ id ∧ H[i]? = some (some oi) ∧ μ[i]? = some k) ∨ (i = H.length ∧ oi = o' ∧ k = b') := by
    intro i oi k h1 h2
    by_cases hi : i < H.length
    · rw [List.getElem?_append_left (by simpa using hi)] at h1
      rw [List.getElem?_append_left (by rw [hs.len]; exact hi)] at h2;rw [List.getElem?_set] at h1
      by_cases e : id = i
      · subst e; simp [hid] at h1
      simp only [e, if_false] at h1;exact .inl ⟨fun h => e h.symm, h1, h2⟩
    have hi' : i = H.length := by
      have := (List.getElem?_eq_some_iff.1 h1).1;simp at this;omega
    subst hi';rw [List.getElem?_append_right (by simp)] at h1;rw [List.getElem?_append_right (by rw [hs.len]; exact Nat.le_refl _)] at h2;simp [hs.len] at h1 h2;exact .inr ⟨rfl, h1.symm, h2.symm⟩
  have hne : ∀ (i : Nat) (oi : AObj) (k : Nat), i ≠ id → H[i]? = some (some oi) → μ[i]? = some k → k ≠ b := by
    intro i oi k h1 h2 h3 e;subst e;exact h1 (hs.inj id i o oi k ho h2 hb h3 hl).symm
  have hun : ∀ (i : Nat) (oi : AObj) (k : Nat), i ≠ id → H[i]? = some (some oi) → μ[i]? = some k → w'.heap[k]? = w.heap[k]? := by
    intro i oi k h1 h2 h3
    refine hg.block k (hs.block_lt h2 h3) fun e => ?_
    injection e with e
    exact hne i oi k h1 h2 h3 e
  have he : Evo w w' μ (μ ++ [b']) H (H.set id none ++ [some o']) := by
    refine ⟨hg.os, hg.tape, hg.output, hg.size, fun k hk hkl => ?_, fun k hk hkl => ?_, hm, fun i x hx => ?_⟩
    · refine hg.block k hk fun e => ?_
      injection e with e
      subst e;exact hkl ⟨id, o, ho, hl, hb⟩
    · obtain ⟨i, oi, h1, h2, h3⟩ := hkl
      rcases hcase i oi k h1 h3 with ⟨_, k2, k3⟩ | ⟨_, rfl, rfl⟩
      · exact ⟨i, oi, k2, h2, k3⟩
      rcases hb' with rfl | rfl
      · exact ⟨id, o, ho, hl, hb⟩
      omega
    have hi : i < H.length := (List.getElem?_eq_some_iff.1 hx).1
    by_cases e : id = i
    · subst e
      exact ⟨none, by rw [List.getElem?_append_left (by simpa using hi)]; simp [hid], fun o'' h => by cases h⟩
    refine ⟨x, by rw [List.getElem?_append_left (by simpa using hi), List.getElem?_set_ne e]; exact hx, fun o'' h => ⟨o'', h, rfl, rfl, rfl, fun k cur hk hw => ⟨cur, ?_, rfl⟩⟩⟩;subst h;rw [hun i o'' k (fun h => e h.symm) hx hk]; exact hw
  refine ⟨hs.next he (by simp [hs.len]) (fun i oi k h1 h2 => ?_) (fun i j oi oj k h1 h2 h3 h4 hli => ?_) (fun i oi k h1 h2 hL => ?_), he⟩
  · rcases hcase i oi k h1 h2 with ⟨k1, k2, k3⟩ | ⟨_, rfl, rfl⟩
    · exact (hs.obj i oi k k2 k3).same (hun i oi k k1 k2 k3)
    exact .of_row hsp ⟨cur', hc, hlen, hcs⟩
  · rcases hcase i oi k h1 h3 with ⟨k1, k2, k3⟩ | ⟨e1, rfl, rfl⟩ <;> rcases hcase j oj _ h2 h4 with ⟨m1, m2, m3⟩ | ⟨f1, _, f3⟩
    · exact hs.inj i j oi oj k k2 m2 k3 m3 hli
    · subst f3
      rcases hb' with e | e
      · exact (hne i oi _ k1 k2 k3 e).elim
      have := hs.block_lt k2 k3; omega
    · rcases hb' with e | e
      · exact (hne j oj _ m1 m2 m3 e).elim
      have := hs.block_lt m2 m3; omega
    omega
  rcases hcase i oi k h1 h2 with ⟨_, k2, k3⟩ | ⟨_, rfl, rfl⟩
  · exact hs.own i oi k k2 k3 hL
  rcases hb' with rfl | rfl
  · exact hs.own id o _ ho hb hL
  have := hs.lim _ hL; omega
theorem SR.grow {C : Ctx} {L0 : Nat → Prop} {w w' : World} {μ : List Nat} {H : Heap} (hs : SR C L0 w μ H) {o' : AObj} {cur' : Array Value} (hg : w.grownBy w' none)
    (hc : w'.heap[w.heap.size]? = some (.cells cur' o'.elem (0, 0))) (hlen : o'.cells.length ≤ cur'.size) (hcs : ∀ (j : Nat) (d : D), o'.cells[j]? = some d → ∃ v : Value, cur'[j]? = some v ∧ v.oneCell' = true ∧ VR w (forb L0 μ H) μ H d v) (hsp : o'.sp = none := by rfl) :
    SR C L0 w' (μ ++ [w.heap.size]) (H ++ [some o']) ∧ Evo w w' μ (μ ++ [w.heap.size]) H (H ++ [some o']) := by
  have hm : ∀ i k : Nat, μ[i]? = some k → (μ ++ [w.heap.size])[i]? = some k := fun i k h => by
    rw [List.getElem?_append_left (List.getElem?_eq_some_iff.1 h).1]; exact h
  have hun : ∀ k, k < w.heap.size → w'.heap[k]? = w.heap[k]? := fun k hk => hg.block k hk (by simp)
  have hcase : ∀ (i : Nat) (oi : AObj) (k : Nat), (H ++ [some o'])[i]? = some (some oi) → (μ ++ [w.heap.size])[i]? = some k → (H[i]? = some (some oi) ∧ μ[i]? = some k) ∨ (i = H.length ∧ oi = o' ∧ k = w.heap.size) := by
    intro i oi k h1 h2
    by_cases hi : i < H.length
    · rw [List.getElem?_append_left hi] at h1
      rw [List.getElem?_append_left (by rw [hs.len]; exact hi)] at h2;exact .inl ⟨h1, h2⟩
    have hi' : i = H.length := by
      have := (List.getElem?_eq_some_iff.1 h1).1;simp at this;omega
    subst hi';rw [List.getElem?_append_right (by simp)] at h1;rw [List.getElem?_append_right (by rw [hs.len]; exact Nat.le_refl _)] at h2;simp [hs.len] at h1 h2;exact .inr ⟨rfl, h1.symm, h2.symm⟩
  have he : Evo w w' μ (μ ++ [w.heap.size]) H (H ++ [some o']) := by
    refine ⟨hg.os, hg.tape, hg.output, hg.size, fun k hk _ => hun k hk, fun k hk hkl => ?_, hm, fun i x hx => ?_⟩
    · obtain ⟨i, oi, h1, h2, h3⟩ := hkl
      rcases hcase i oi k h1 h3 with ⟨k2, k3⟩ | ⟨_, _, e⟩
      · exact ⟨i, oi, k2, h2, k3⟩
      omega
    have hi : i < H.length := (List.getElem?_eq_some_iff.1 hx).1;exact ⟨x, by rw [List.getElem?_append_left hi]; exact hx, fun o'' h => ⟨o'', h, rfl, rfl, rfl, fun k cur hk hw => ⟨cur, by rw [hun k (Array.getElem?_eq_some_iff.1 hw).1]; exact hw, rfl⟩⟩⟩
  refine ⟨hs.next he (by simp [hs.len]) (fun i oi k h1 h2 => ?_) (fun i j oi oj k h1 h2 h3 h4 hli => ?_) (fun i oi k h1 h2 hL => ?_), he⟩
  · rcases hcase i oi k h1 h2 with ⟨k2, k3⟩ | ⟨_, rfl, rfl⟩
    · exact (hs.obj i oi k k2 k3).same (hun k (hs.block_lt k2 k3))
    exact .of_row hsp ⟨cur', hc, hlen, hcs⟩
  · rcases hcase i oi k h1 h3 with ⟨k2, k3⟩ | ⟨e1, _, e3⟩ <;> rcases hcase j oj k h2 h4 with ⟨m2, m3⟩ | ⟨f1, _, f3⟩
    · exact hs.inj i j oi oj k k2 m2 k3 m3 hli
    · have := hs.block_lt k2 k3; omega
    · have := hs.block_lt m2 m3; omega
    omega
  rcases hcase i oi k h1 h2 with ⟨k2, k3⟩ | ⟨_, _, rfl⟩
  · exact hs.own i oi k k2 k3 hL
  have := hs.lim _ hL; omega
def srcD (H : Heap) : D → Option (Nat × List D)
  | .sl n cs => some (n, cs)
  | .nilsl => some (0, [])
  | .row id n => match H[id]? with
    | some (some o) => some (n, o.cells)
    | _ => none
  | _ => none
theorem ZiD {C : Ctx} {L0 : Nat → Prop} {w : World} {μ : List Nat} {H : Heap} (hs : SR C L0 w μ H) {d : D} {m : Nat} {cs : List D} {v : Value} (h : srcD H d = some (m, cs)) (hv : VR w (forb L0 μ H) μ H d v) :
    ∃ a cap, v = .slice a m cap ∧ m ≤ cap ∧ (cs ≠ [] → ∃ ad, a = some ad ∧ ∃ vs : List Value, vs.length = cs.length ∧ VRs w (forb L0 μ H) μ H cs vs ∧ (∀ j u, vs[j]? = some u → w.cell? (ad.add j) = some u) ∧ ∀ u ∈ vs, u.oneCell' = true) := by
  have key : ∀ (cs : List D) (ad : Addr), (∀ j d, cs[j]? = some d → ∃ v, w.cell? (ad.add j) = some v ∧ v.oneCell' = true ∧ VR w (forb L0 μ H) μ H d v) → ∃ vs : List Value, vs.length = cs.length ∧ VRs w (forb L0 μ H) μ H cs vs ∧ (∀ j u, vs[j]? = some u → w.cell? (ad.add j) = some u) ∧ ∀ u ∈ vs, u.oneCell' = true := by
    intro cs
    induction cs with
    | nil => intro ad _; exact ⟨[], rfl, by simp [VRs], fun j u h => by simp at h, fun u h => by simp at h⟩
    | cons c cs ih =>
      intro ad h;obtain ⟨v, h1, h2, h3⟩ := h 0 c rfl
      obtain ⟨vs, k1, k2, k3, k4⟩ := ih (ad.add 1) fun j d hd => by
        obtain ⟨v, m1, m2⟩ := h (j + 1) d (by simpa using hd);exact ⟨v, by rw [add_add, show 1 + j = j + 1 by omega]; exact m1, m2⟩
      refine ⟨v :: vs, by simp [k1], by simp only [VRs]; exact ⟨v, vs, rfl, h3, k2⟩, fun j u hu => ?_, fun u hu => ?_⟩
      · cases j with
        | zero => simp at hu; subst hu; exact h1
        | succ j => rw [show j + 1 = 1 + j by omega, ← add_add]; exact k3 j u (by simpa using hu)
      rcases List.mem_cons.1 hu with rfl | hu
      · exact h2
      exact k4 u hu
  cases d <;> simp only [srcD] at h <;> first | (cases h; done) | skip
  case sl n ds =>
    injection h with h; injection h with h1 h2; subst h1; subst h2
    simp only [VR] at hv;obtain ⟨a, cap, rfl, k1, k2, k3⟩ := hv;refine ⟨a, cap, rfl, k1, fun hne => ?_⟩;obtain ⟨ad, rfl, _, _, m3⟩ := k3 hne
    exact ⟨ad, rfl, key ds ad fun j d hd => by
      obtain ⟨v, q1, q2, q3⟩ := Zf9 m3 hd
      exact ⟨v, by rw [Nat.zero_add] at q1; exact q1, q2, VR.lift q3⟩⟩
  case nilsl =>
    injection h with h; injection h with h1 h2; subst h1; subst h2
    simp only [VR] at hv;exact ⟨none, 0, hv, Nat.le_refl _, fun h => (h rfl).elim⟩
  case row id n =>
    split at h
    · rename_i o ho
      injection h with h; injection h with h1 h2; subst h1; subst h2
      simp only [VR] at hv;obtain ⟨x, hx, k2⟩ := hv;rw [ho] at hx
      injection hx with hx
      obtain ⟨b, cap, cur, m1, rfl, m3, m4, m5, m6, m7⟩ := k2 o hx.symm;refine ⟨some ⟨b, 0, none⟩, cap, rfl, m3, fun _ => ⟨⟨b, 0, none⟩, rfl, key o.cells _ fun j d hd => ?_⟩⟩;obtain ⟨v, q1, q2, q3⟩ := hs.cell ho m1 hd;exact ⟨v, by rw [Zek]; exact q1, q2, q3⟩
    cases h
theorem Ziu {P : Program} {w : World} {t ty e : TypeId} {i : TypeInfo} (ht : P.underlying t = some (.slice e)) (hi : P.info? e = some i) {base : Option Addr} {n cap c : Nat} {a : Option Addr} (hn : n ≤ cap) : (Builtin.append_ #[t, t] ty #[.slice base n cap, .slice a 0 c]).run P w = .ok (.slice base n cap) w := by
  cases base <;> cases a <;> simp [Builtin.append_, run_underlying ht, sizeOf, typeInfo, hi, Builtin.lenOf, Builtin.firstCells, loadCells, loadCellsFrom, storeCells, hn]
theorem Zg6 {z : Value} {dz : D} {zs : List D} (h : Zas z = some dz) (hc : Z7 dz = some zs) : z.cells.size = zs.length := by
  unfold Zas at h
  split at h
  · rename_i cs
    split at h
    · rename_i ds hs
      injection h with h; subst h
      simp only [Z7] at hc
      injection hc with hc; subst hc
      have : VRs (default : World) (fun _ => False) [] [] ds cs.toList := ZfG hs;have := ZJ this;simp [Value.cells] at this ⊢;omega
    cases h
  · split at h
    · injection h with h; subst h; simp [Z7] at hc
    cases h
  have h1 : ∀ v : Value, ZbU v = some dz → v.cells.size = 1 ∧ ∃ d, Z7 dz = some [d] := by
    intro v hv;unfold ZbU at hv
    split at hv <;> first | (injection hv with hv; subst hv; exact ⟨rfl, _, rfl⟩) | (cases hv)
  obtain ⟨k1, d, k2⟩ := h1 _ h;rw [k2] at hc
  injection hc with hc
  subst hc;exact k1
section
variable {C : Ctx} {env : List D} {H : Heap} {dst : Option Tmp} {ty : TypeId} {pos : String} {aft : Array Edge} {gd : Option (Nat × Bool)} {x y : Operand} {T e : TypeId} {descE : TypeDesc} {sizeE bytesE : Nat} {zeroE : Value}
theorem ZkZ (w : World) (r : Option Nat) : w.grownBy w r := ⟨rfl, rfl, rfl, Nat.le_refl _, fun _ _ _ => rfl⟩
theorem ZiQ {id n m : Nat} {o : AObj} {dy dz : D} {zs news : List D} (ht : UN C T (.slice e)) (te : TIC C e descE sizeE bytesE zeroE) (h0 : 0 < sizeE) (hz : Zas zeroE = some dz) (hzs : Z7 dz = some zs) (hzl : zs.length = sizeE)
    (hx : evO C env x = some (.row id n)) (ho : H[id]? = some (some o)) (hl : o.live = true) (hel : o.elem = e) (hes : o.esz = sizeE) (hy : evO C env y = some dy) (hs : srcD H dy = some (m, news)) (hnl : news.length = m * sizeE) (hb : (n + m) * bytesE ≤ 140737488355328) (hm : n + m ≤ maxLen) :
    OpN C ⟨dst, .call ⟨.builtin .append, #[x, y], #[T, T]⟩, ty, pos, aft, gd⟩ env H (.row H.length (n + m)) (H.set id none ++ [some ⟨o.cells ++ news, e, sizeE, true, none⟩]) := by
  refine ⟨fun L0 w μ a hsr hv => ?_⟩;have ex := Zap hsr hv hx;have ey := Zap hsr hv hy;obtain ⟨ay, capy, ey', hmc, hnews⟩ := ZiD hsr hs ey;simp only [VR] at ex;obtain ⟨xo, hxo, h2⟩ := ex;rw [ho] at hxo
  injection hxo with hxo
  obtain ⟨b, cap, cur, k1, ex, k3, k4, k5, k6, k7⟩ := h2 o hxo.symm;rw [hel] at k5;rw [hes] at k6 k7;obtain ⟨i, i1, i2, i3, i4⟩ := te.infos;obtain ⟨curO, co1, co2, co3⟩ := (hsr.obj id o b ho k1).row ((hsr.obj id o b ho k1).sp_none k5);rw [hel, k5] at co1
  injection co1 with co1
  injection co1 with co1
  subst co1
  have hrunop : ∀ (v' : Value) (w' : World), (Builtin.append_ #[T, T] ty #[a.eval x, a.eval y]).run C.P w = .ok v' w' → (execOp a.eval ⟨dst, .call ⟨.builtin .append, #[x, y], #[T, T]⟩, ty, pos, aft, gd⟩).run C.P w = .ok (.value v') w' := by
    intro v' w' h;simp [execOp, resolve, invoke, builtin, h]
  have done : ∀ (w' : World) (b' cap' : Nat) (cur' : Array Value), (Builtin.append_ #[T, T] ty #[a.eval x, a.eval y]).run C.P w = .ok (.slice (some ⟨b', 0, none⟩) (n + m) cap') w' → w.grownBy w' (some b) → (b' = b ∨ b' = w.heap.size) → w'.heap[b']? = some (.cells cur' e (0, 0)) → n + m ≤ cap' → cap' ≤ maxLen → cur'.size = cap' * sizeE →
      (∀ (j : Nat) (d : D), (o.cells ++ news)[j]? = some d → ∃ v : Value, cur'[j]? = some v ∧ v.oneCell' = true ∧ VR w (forb L0 μ H) μ H d v) →
      Oper.wp C.P ⟨dst, .call ⟨.builtin .append, #[x, y], #[T, T]⟩, ty, pos, aft, gd⟩ a w (fun a' w' => ∃ v d H' μ', (d = .row H.length (n + m) ∧ H' = H.set id none ++ [some ⟨o.cells ++ news, e, sizeE, true, none⟩]) ∧ a' = a.put dst v ∧ SR C L0 w' μ' H' ∧ VR w' (forb L0 μ' H') μ' H' d v ∧ Evo w w' μ μ' H H')
        (fun e' a' w' => ∃ v d H' μ', e' = .panic (pan1 v) ∧ a' = a ∧ False ∧ SR C L0 w' μ' H' ∧ VR w' (forb L0 μ' H') μ' H' d v ∧ Evo w w' μ μ' H H') := by
    intro w' b' cap' cur' hrun hg hb' hc q1 q2 q3 hcs;unfold Oper.wp;rw [hrunop _ _ hrun]
    have hlen : (o.cells ++ news).length ≤ cur'.size := by
      rw [List.length_append, k7, hnl, ← Nat.add_mul, q3]; exact Nat.mul_le_mul_right _ q1
    obtain ⟨s1, s2⟩ := hsr.regrow (o' := ⟨o.cells ++ news, e, sizeE, true, none⟩) ho k1 hl hg hb' hc hlen hcs;refine ⟨_, _, _, _, ⟨rfl, rfl⟩, rfl, s1, ?_, s2⟩;simp only [VR];refine ⟨some ⟨o.cells ++ news, e, sizeE, true, none⟩, by rw [List.getElem?_append_right (by simp)]; simp, fun o' e' => ?_⟩
    injection e' with e'
    subst e';refine ⟨b', cap', cur', by rw [← hsr.len]; simp, rfl, q1, q2, hc, q3, by rw [List.length_append, k7, hnl, Nat.add_mul]⟩
  by_cases hm0 : m = 0
  · subst hm0
    have hnil : news = [] := List.eq_nil_of_length_eq_zero (by simpa using hnl);subst hnil;refine done w b cap cur ?_ (ZkZ _ _) (.inl rfl) k5 (by omega) k4 k6 ?_
    · rw [ex, ey']
      exact Ziu ht i1 k3
    intro j d hd;rw [List.append_nil] at hd;exact co3 j d hd
  have hne : news ≠ [] := by
    rintro rfl;simp only [List.length_nil] at hnl
    rcases Nat.mul_eq_zero.1 hnl.symm with h | h <;> omega
  obtain ⟨ad, rfl, vs, v1, v2, v3, v4⟩ := hnews hne
  have htk : (cur.toList.take (n * sizeE)).length = n * sizeE := by
    rw [List.length_take, Array.length_toList, k6];exact Nat.min_eq_left (Nat.mul_le_mul_right _ k3)
  have hown : w.ownsRow 0 e sizeE (.slice (some ⟨b, 0, none⟩) n cap) n (cur.toList.take (n * sizeE)) := ⟨htk, .inr ⟨b, cap, cur, rfl, Nat.zero_le _, k5, k3, k4, k6, rfl⟩⟩;obtain ⟨v', w', hrun, r1, r2, r3, r4⟩ := run_append_own_at (P := C.P) w 0 T ty e i zeroE sizeE bytesE ht i1 i4 i2 i3 ((Zg6 hz hzs).trans hzl) h0 _ n _ hown ad m capy vs (by rw [v1, hnl]) v3 v4 hm hb (Nat.zero_le _)
  rcases r1.2 with ⟨_, hz0⟩ | ⟨g, cap', cur', rfl, _, g2, g3, g4, g5, g6⟩
  · omega
  refine done w' g cap' cur' (by rw [ex, ey']; exact hrun) r2 (by
    rcases r4 with h | h
    · left; simpa [Value.ownBlock] using h
    right; simpa [Value.ownBlock] using h) g2 g3 g4 g5 fun j d hd => ?_
  have hj : j < (n + m) * sizeE := by
    have := (List.getElem?_eq_some_iff.1 hd).1;rw [List.length_append, k7, hnl, ← Nat.add_mul] at this;exact this
  have hget : cur'[j]? = (cur.toList.take (n * sizeE) ++ vs)[j]? := by
    rw [← g6, List.getElem?_take, if_pos hj, Array.getElem?_toList]
  by_cases hj2 : j < n * sizeE
  · rw [List.getElem?_append_left (by rw [k7]; exact hj2)] at hd
    rw [hget, List.getElem?_append_left (by rw [htk]; exact hj2), List.getElem?_take, if_pos hj2, Array.getElem?_toList];exact co3 j d hd
  rw [List.getElem?_append_right (by rw [k7]; omega), k7] at hd;rw [hget, List.getElem?_append_right (by rw [htk]; omega), htk];obtain ⟨u, u1, u2⟩ := Z2 v2 hd;exact ⟨u, u1, v4 u (List.mem_of_getElem? u1), u2⟩
theorem Zh2 {m : Nat} {dy dz : D} {zs news : List D} (ht : UN C T (.slice e)) (te : TIC C e descE sizeE bytesE zeroE) (h0 : 0 < sizeE) (hz : Zas zeroE = some dz) (hzs : Z7 dz = some zs) (hzl : zs.length = sizeE)
    (hx : evO C env x = some .nilsl) (hy : evO C env y = some dy) (hs : srcD H dy = some (m, news)) (hnl : news.length = m * sizeE) (hm0 : 0 < m) (hb : m * bytesE ≤ 140737488355328) (hm : m ≤ maxLen) :
    OpN C ⟨dst, .call ⟨.builtin .append, #[x, y], #[T, T]⟩, ty, pos, aft, gd⟩ env H (.row H.length m) (H ++ [some ⟨news, e, sizeE, true, none⟩]) := by
  refine ⟨fun L0 w μ a hsr hv => ?_⟩;have ex := Zap hsr hv hx;have ey := Zap hsr hv hy;obtain ⟨ay, capy, ey', hmc, hnews⟩ := ZiD hsr hs ey;simp only [VR] at ex;obtain ⟨i, i1, i2, i3, i4⟩ := te.infos
  have hne : news ≠ [] := by
    rintro rfl;simp only [List.length_nil] at hnl
    rcases Nat.mul_eq_zero.1 hnl.symm with h | h <;> omega
  obtain ⟨ad, rfl, vs, v1, v2, v3, v4⟩ := hnews hne;obtain ⟨v', w', hrun, r1, r2, r3, r4⟩ := run_append_own_at (P := C.P) w w.heap.size T ty e i zeroE sizeE bytesE ht i1 i4 i2 i3 ((Zg6 hz hzs).trans hzl) h0 _ 0 [] (World.ownsRow_nil w _ e sizeE) ad m capy vs (by rw [v1, hnl]) v3 v4 (by omega) (by rw [Nat.zero_add]; exact hb) (Nat.le_refl _);simp only [Nat.zero_add, List.nil_append] at r1
  rcases r1.2 with ⟨_, hz0⟩ | ⟨g, cap', cur', rfl, hgg, g2, g3, g4, g5, g6⟩
  · omega
  have hgs : g = w.heap.size := by
    rcases r4 with h | h
    · simp [Value.ownBlock] at h
    simpa [Value.ownBlock] using h
  subst hgs
  have hrunop : (execOp a.eval ⟨dst, .call ⟨.builtin .append, #[x, y], #[T, T]⟩, ty, pos, aft, gd⟩).run C.P w = .ok (.value (.slice (some ⟨w.heap.size, 0, none⟩) m cap')) w' := by
    have hrun' := hrun;simp [execOp, resolve, invoke, builtin, ex, ey', hrun']
  unfold Oper.wp;rw [hrunop]
  obtain ⟨s1, s2⟩ := hsr.grow (o' := ⟨news, e, sizeE, true, none⟩) (by simpa [Value.ownBlock] using r2) g2 (by show news.length ≤ _; rw [hnl, g5]; exact Nat.mul_le_mul_right _ g3) fun j d hd => by
    have hj : j < m * sizeE := by rw [← hnl]; exact (List.getElem?_eq_some_iff.1 hd).1
    have hget : cur'[j]? = vs[j]? := by rw [← g6, List.getElem?_take, if_pos hj, Array.getElem?_toList]
    obtain ⟨u, u1, u2⟩ := Z2 v2 hd;exact ⟨u, by rw [hget]; exact u1, v4 u (List.mem_of_getElem? u1), u2⟩
  refine ⟨_, _, _, _, ⟨rfl, rfl⟩, rfl, s1, ?_, s2⟩;simp only [VR];refine ⟨some ⟨news, e, sizeE, true, none⟩, by rw [List.getElem?_append_right (Nat.le_refl _)]; simp, fun o' e' => ?_⟩
  injection e' with e'
  subst e';exact ⟨w.heap.size, cap', cur', by rw [← hsr.len]; simp, rfl, g3, g4, g2, g5, hnl⟩
variable {te tee : TE} {H' : Heap}
theorem Zdn {id n m i S b : Nat} {zv : Value} {o : AObj} {dy dz : D} {zs news cs : List D} {H1 : Heap} [pl : PutL H id none H1] [ap : AppL H1 (some ⟨cs, e, tee.size, true, none⟩) i H'] (ht : C.ty T = some ⟨.slice e, S, b, zv⟩) (hee : C.ty e = some tee) (h0 : 0 < tee.size) (hz : Zas tee.zero = some dz) (hzs : Z7 dz = some zs) (hzl : zs.length = tee.size)
    (hx : evO C env x = some (.row id n)) (ho : H[id]? = some (some o)) (hl : o.live = true) (hel : o.elem = e) (hes : o.esz = tee.size) (hy : evO C env y = some dy) (hs : srcD H dy = some (m, news)) (hnl : news.length = m * tee.size) (hb : (n + m) * tee.bytes ≤ 140737488355328) (hm : n + m ≤ maxLen) (hcs : o.cells ++ news = cs) :
    OpN C ⟨dst, .call ⟨.builtin .append, #[x, y], #[T, T]⟩, ty, pos, aft, gd⟩ env H (.row i (n + m)) H' := by
  subst hcs;have h := ZiQ (dst := dst) (ty := ty) (pos := pos) (aft := aft) (gd := gd) (Zax ht) (ZU hee).1 h0 hz hzs hzl hx ho hl hel hes hy hs hnl hb hm;have hlen := ap.len;have heq := ap.eq;rw [← pl.eq] at hlen heq;rw [List.length_set] at hlen;unfold OpN;rw [← hlen, ← heq];exact h
end
section
variable {C : Ctx} {Q : Post} {ops : Array Oper} {rest : List Oper} {k : List Item} {env : List D} {H H' : Heap} {df : List ADef}
variable {dst : Option Tmp} {ty : TypeId} {pos : String} {aft : Array Edge} {gd : Option (Nat × Bool)} {d : D} {x y z : Operand} {T e : TypeId} {desc descE : TypeDesc} {size bytes sizeE bytesE : Nat} {zero zeroE : Value} {te tee : TE}
theorem OpH.of_val {o : Oper} {K : D → Prop} (h : ∀ (L0 : Nat → Prop) (w : World) (μ : List Nat) (a : Act), SR C L0 w μ H → (∀ x d, evO C env x = some d → VR w (forb L0 μ H) μ H d (a.eval x)) → ∃ v d, (execOp a.eval o).run C.P w = .ok (.value v) w ∧ VR w (forb L0 μ H) μ H d v ∧ K d) :
    OpH C o env H (fun d' H' => K d' ∧ H' = H) (fun _ _ => False) := by
  refine ⟨fun L0 w μ a hs hv => ?_⟩;obtain ⟨v, d, h1, h2, h3⟩ := h L0 w μ a hs (fun x d hx => Zap hs hv hx);unfold Oper.wp;rw [h1];exact ⟨v, d, H, μ, ⟨h3, rfl⟩, rfl, hs, h2, Evo.refl _ _ _⟩
theorem Zg7 {P : Program} {w : World} {op : BinOp} {t : TypeId} {a a' : Option Addr} {n c n' c' : Nat} : (eqGuard op t x y (.slice a n c) (.slice a' n' c')).run P w = .ok () w := by
  unfold eqGuard;simp only [Sem.run_bind]
  split <;> simp
theorem Znf {n : Nat} {cs : List D} {yt : TypeId} (ht : UN C T (.slice e)) (hx : evO C env x = some d) (hd : asSl d = some (n, cs)) (hy : evO C env y = some .nilsl) :
    OpH C ⟨dst, .binOp .eql T x y yt, ty, pos, aft, gd⟩ env H (fun d' H' => (∃ b : Bool, d' = .bool b ∧ (b = true → cs = [])) ∧ H' = H) (fun _ _ => False) :=
  OpH.of_val fun L0 w μ a hs he => by
    have ex := he _ _ hx;have ey := he _ _ hy;obtain ⟨ad, cap, ex, h1, h2, h3⟩ := asSl_ok hd ex;simp only [VR] at ey;refine ⟨.bool ad.isNone, .bool ad.isNone, ?_, by simp only [VR], _, rfl, fun hb => ?_⟩
    · simp only [execOp, ex, ey, Sem.run_bind, Zg7, Result.andThen_ok]
      have := Lib.run_eql_slice_nil (P := C.P) w T e ad n cap 0 0 ht;rw [this];rfl
    cases hcs : cs with
    | nil => rfl
    | cons c r =>
      obtain ⟨q, rfl, _⟩ := h3 (by rw [hcs]; simp);cases hb
theorem Zl8 {n S b0 : Nat} {zv : Value} {cs : List D} {yt : TypeId} {E : Bool → List D} [hp : ∀ b, Put env dst (.bool b) (E b)] (hg : gOk ops.toList env gd = some true) (hx : evO C env x = some d) (hd : asSl d = some (n, cs)) (hy : evO C env y = some .nilsl) (ht : C.ty T = some ⟨.slice e, S, b0, zv⟩)
    (hk : ∀ b : Bool, (b = true → cs = []) → AOps C Q ops rest k (E b) H df) : AOps C Q ops (⟨dst, .binOp .eql T x y yt, ty, pos, aft, gd⟩ :: rest) k env H df :=
  ZnO hg (Znf (Zax ht) hx hd hy) (fun d' H' ⟨⟨b, h1, h2⟩, h3⟩ => by subst h1; subst h3; rw [(hp b).eq]; exact hk b h2) (fun _ _ h => h.elim)
theorem ZmK {id off n : Nat} {ik : IntKind} {i : Int} (ht : UN C T (.slice e)) (te : TIC C e descE sizeE bytesE zeroE) (hx : evO C env x = some (.sub id off n)) (hy : evO C env y = some (.int ik i)) (h0 : 0 ≤ i) (h1 : i < n) :
    OpQ C ⟨dst, .indexAddr T x y, ty, pos, aft, gd⟩ env H (.ptr id (off + i.toNat * sizeE)) :=
  OpQ.of_run fun L w μ a he => by
    have ex := he _ _ hx;have ey := he _ _ hy;simp only [VR] at ex ey;obtain ⟨b, cap, hb, ex, _⟩ := ex;refine ⟨.pointer (some ((⟨b, off, none⟩ : Addr).add (i.toNat * sizeE))), ?_, by simp only [VR]; exact ⟨b, hb, by rw [ZgZ]⟩⟩;have := ZfJ (P := C.P) (w := w) (ad := ⟨b, off, none⟩) (n := n) (cap := cap) (k := ik) ht te h0 h1;simp only [execOp, ex, ey, Sem.run_bind, this, Result.andThen_ok, Sem.run_pure]
theorem ZmL {id off n : Nat} (ht : UN C T (.slice e)) (hx : evO C env x = some (.sub id off n)) : OpQ C ⟨dst, .call ⟨.builtin .len, #[x], #[T]⟩, ty, pos, aft, gd⟩ env H (.int .i64 n) :=
  OpQ.of_run fun L w μ a he => by
    have ex := he _ _ hx;simp only [VR] at ex;obtain ⟨b, cap, hb, ex, _⟩ := ex;exact ⟨.int .i64 n, by simp [execOp, resolve, ex, invoke, builtin, Builtin.len_, run_underlying ht, goInt], by simp only [VR]⟩
theorem Zd1 {id off n S b j : Nat} {ik : IntKind} {i : Int} {zv : Value} (hx : evO C env x = some (.sub id off n)) (hy : evO C env y = some (.int ik i)) (ht : C.ty T = some ⟨.slice e, S, b, zv⟩) (hee : C.ty e = some tee) (h0 : 0 ≤ i) (h1 : i < n) (hj : off + i.toNat * tee.size = j) : OpQ C ⟨dst, .indexAddr T x y, ty, pos, aft, gd⟩ env H (.ptr id j) := by
  subst hj; exact ZmK (Zax ht) (ZU hee).1 hx hy h0 h1
theorem ZiR {id off n S b : Nat} {zv : Value} (hx : evO C env x = some (.sub id off n)) (ht : C.ty T = some ⟨.slice e, S, b, zv⟩) : OpQ C ⟨dst, .call ⟨.builtin .len, #[x], #[T]⟩, ty, pos, aft, gd⟩ env H (.int .i64 n) := ZmL (Zax ht) hx
theorem ZlJ {id n lo hi : Nat} {o : AObj} {x1 x2 : Operand} {k1 k2 : IntKind} (ht : UN C T (.slice e)) (hee : TIC C e descE sizeE bytesE zeroE) (hx : evO C env x = some (.row id n)) (ho : H[id]? = some (some o)) (hlo : evO C env x1 = some (.int k1 lo)) (hhi : evO C env x2 = some (.int k2 hi)) (hl : lo < hi) (hh : hi ≤ n) :
    OpQ C ⟨dst, .slice T x (some x1) (some x2) none, ty, pos, aft, gd⟩ env H (.sub id (lo * sizeE) (hi - lo)) :=
  OpQ.of_run fun L w μ a he => by
    have ex := he _ _ hx;have e1 := he _ _ hlo;have e2 := he _ _ hhi;simp only [VR] at ex e1 e2;obtain ⟨x', hx', h2⟩ := ex;rw [ho] at hx'
    injection hx' with hx'
    obtain ⟨b, cap, cur, k1', ex, k3, k4, _⟩ := h2 o hx'.symm
    have hte : C.P.elem T = e := by unfold Program.elem; rw [show C.P.underlying T = some (.slice e) from ht]
    have ht' : C.P.underlying T = some (.slice (C.P.elem T)) := by rw [hte]; exact ht
    have hsz : ∀ w, (sizeOf (C.P.elem T)).run C.P w = .ok sizeE w := fun w => by rw [hte]; exact hee.run_size w
    have key : (Instr.sliceAt T (.slice (some ⟨b, 0, none⟩) n cap) (some (.int k1 lo)) (some (.int k2 hi)) none).run C.P w = .ok (sliced (some ⟨b, 0, none⟩) lo hi cap sizeE) w := by
      rw [run_sliceAt_slice _ _ _ _ _ _ ht', run_slice_lh _ _ _ _ _ ht' k1 k2 (lo : Int) (hi : Int) (by omega) (by omega) (by omega), hsz];simp
    refine ⟨sliced (some ⟨b, 0, none⟩) lo hi cap sizeE, ?_, ?_⟩
    · simp only [execOp, ex, e1, e2, Sem.run_bind, Option.map_none, Option.map_some, key, Result.andThen_ok, Sem.run_pure]
    simp only [VR, sliced];refine ⟨b, cap - lo, k1', ?_, by omega, by omega⟩;rw [if_neg (by omega)];simp only [Option.map_some, Zek]
theorem ZlK {id n lo hi m off S b : Nat} {o : AObj} {x1 x2 : Operand} {k1 k2 : IntKind} {zv : Value} (hx : evO C env x = some (.row id n)) (ho : H[id]? = some (some o)) (ht : C.ty T = some ⟨.slice e, S, b, zv⟩) (hee : C.ty e = some tee) (hlo : evO C env x1 = some (.int k1 lo)) (hhi : evO C env x2 = some (.int k2 hi)) (hl : lo < hi) (hh : hi ≤ n) (hm : hi - lo = m) (hoff : lo * tee.size = off) :
    OpQ C ⟨dst, .slice T x (some x1) (some x2) none, ty, pos, aft, gd⟩ env H (.sub id off m) := by
  subst hm; subst hoff; exact ZlJ (Zax ht) (ZU hee).1 hx ho hlo hhi hl hh
theorem o_copy {id n m : Nat} {o : AObj} {dy : D} {cs : List D} {Ts : TypeId} (ht : UN C T (.slice e)) (te : TIC C e descE 1 bytesE zeroE) (hx : evO C env x = some (.row id n)) (ho : H[id]? = some (some o)) (hl : o.live = true) (hes : o.esz = 1) (hy : evO C env y = some dy) (hs : srcD H dy = some (m, cs)) (hcl : cs.length = m) (hm : m ≤ n) :
    OpN C ⟨dst, .call ⟨.builtin .copy, #[x, y], #[T, Ts]⟩, ty, pos, aft, gd⟩ env H (.int .i64 m) (H.set id (some { o with cells := cs ++ o.cells.drop m })) := by
  refine ⟨fun L0 w μ a hsr hv => ?_⟩;have ex := Zap hsr hv hx;have ey := Zap hsr hv hy;obtain ⟨ay, capy, ey', hmc, hnews⟩ := ZiD hsr hs ey;simp only [VR] at ex;obtain ⟨xo, hxo, h2⟩ := ex;rw [ho] at hxo
  injection hxo with hxo
  obtain ⟨b, cap, cur, k1, ex, k3, k4, k5, k6, k7⟩ := h2 o hxo.symm;rw [hes] at k6 k7;rw [Nat.mul_one] at k6 k7;obtain ⟨curO, co1, co2, co3⟩ := (hsr.obj id o b ho k1).row ((hsr.obj id o b ho k1).sp_none k5);rw [k5] at co1
  injection co1 with co1
  injection co1 with co1
  subst co1;obtain ⟨i, i1, i2, i3, i4⟩ := te.infos
  have hsz : (C.P.info? e).map (·.size) = some 1 := by rw [i1]; simp [i2]
  by_cases hm0 : m = 0
  · subst hm0
    have hnil : cs = [] := List.eq_nil_of_length_eq_zero hcl;subst hnil;have hrun := run_copy_none (P := C.P) w T Ts ty e (some ⟨b, 0, none⟩) ay n cap 0 capy ht hsz (Nat.zero_min _)
    have hrunop : (execOp a.eval ⟨dst, .call ⟨.builtin .copy, #[x, y], #[T, Ts]⟩, ty, pos, aft, gd⟩).run C.P w = .ok (.value (.int .i64 0)) w := by
      simp [execOp, resolve, invoke, builtin, ex, ey', hrun, goInt]
    unfold Oper.wp;rw [hrunop]
    have hsame : H.set id (some { o with cells := [] ++ o.cells.drop 0 }) = H := by
      simp only [List.nil_append, List.drop_zero];apply List.ext_getElem?;intro j;rw [List.getElem?_set]
      by_cases h : id = j
      · subst h
        rw [if_pos rfl, if_pos (List.getElem?_eq_some_iff.1 ho).1, ho]
      rw [if_neg h]
    rw [hsame];exact ⟨_, _, H, μ, ⟨rfl, rfl⟩, rfl, hsr, by simp [VR], Evo.refl _ _ _⟩
  have hne : cs ≠ [] := by
    rintro rfl;simp at hcl;omega
  obtain ⟨ad, rfl, vs, v1, v2, v3, v4⟩ := hnews hne
  have hlen : vs.length = Nat.min m n := by rw [v1, hcl]; exact (Nat.min_eq_left hm).symm
  have hrun := run_copy_row (P := C.P) w T Ts ty e b 0 n cap ad m capy cur o.elem vs ht hsz k5 hlen v3 (by omega) v4
  have hrunop : (execOp a.eval ⟨dst, .call ⟨.builtin .copy, #[x, y], #[T, Ts]⟩, ty, pos, aft, gd⟩).run C.P w = .ok (.value (.int .i64 m)) (w.setRow b (vs ++ cur.toList.drop m).toArray) := by
    have hvm : vs.length = m := by rw [v1, hcl]
    simp only [List.take_zero, List.nil_append, Nat.zero_add, hvm] at hrun;simp [execOp, resolve, invoke, builtin, ex, ey', hrun, goInt]
  unfold Oper.wp;rw [hrunop]
  obtain ⟨s1, s2⟩ := hsr.write (o' := { o with cells := cs ++ o.cells.drop m }) (cur' := (vs ++ cur.toList.drop m).toArray) ho k1 hl k5 rfl rfl hl rfl
    (by simp only [List.length_append, List.length_drop]; omega) (by simp only [List.size_toArray, List.length_append, List.length_drop, Array.length_toList, v1]; omega) (fun j d' hd' => by
      simp only [List.getElem?_toArray]
      by_cases hj : j < m
      · rw [List.getElem?_append_left (by omega)] at hd'
        rw [List.getElem?_append_left (by omega)];obtain ⟨u, u1, u2⟩ := Z2 v2 hd';exact ⟨u, u1, v4 u (List.mem_of_getElem? u1), u2⟩
      rw [List.getElem?_append_right (by omega), List.getElem?_drop] at hd';rw [List.getElem?_append_right (by omega), List.getElem?_drop]
      have e1 : m + (j - cs.length) = j := by omega
      have e2 : m + (j - vs.length) = j := by omega
      rw [e1] at hd';rw [e2];obtain ⟨u, u1, u2, u3⟩ := co3 j d' hd'
      exact ⟨u, by simpa using u1, u2, u3⟩)
  exact ⟨_, _, _, μ, ⟨rfl, rfl⟩, rfl, s1, by simp [VR], s2⟩
theorem n_copy {id n m S b bE : Nat} {kE : TK} {zv zE : Value} {o : AObj} {dy : D} {cs cs' : List D} {Ts : TypeId} [pl : PutL H id (some { o with cells := cs' }) H'] (hx : evO C env x = some (.row id n)) (ht : C.ty T = some ⟨.slice e, S, b, zv⟩) (hee : C.ty e = some ⟨kE, 1, bE, zE⟩) (ho : H[id]? = some (some o)) (hl : o.live = true) (hes : o.esz = 1) (hy : evO C env y = some dy) (hs : srcD H dy = some (m, cs)) (hcl : cs.length = m) (hm : m ≤ n) (hcs : cs ++ o.cells.drop m = cs') :
    OpN C ⟨dst, .call ⟨.builtin .copy, #[x, y], #[T, Ts]⟩, ty, pos, aft, gd⟩ env H (.int .i64 m) H' := by
  subst hcs;have h := o_copy (dst := dst) (ty := ty) (pos := pos) (aft := aft) (gd := gd) (Ts := Ts) (Zax ht) (ZU hee).1 hx ho hl hes hy hs hcl hm;rw [pl.eq] at h;exact h
end
theorem Zff {off i : Nat} {x : Int} (h : x = (i : Int)) : off + x.toNat * 1 = off + i := by subst h; simp
theorem sl_nil {xs : List Nat} {k : IntKind} (h : nts k xs = []) : xs = [] := List.map_eq_nil_iff.1 h
def B : Nat := 4294967296
theorem B_eq : B = 4294967296 := rfl
theorem B_gt : 1 < B := by decide
theorem Zbj : 0 < B := by decide
def val : List Nat → Nat
  | [] => 0
  | x :: xs => x + B * val xs
def lim (n : Nat) : List Nat := if h : n = 0 then [] else n % B :: lim (n / B)
termination_by n
decreasing_by exact Nat.div_lt_self (Nat.pos_of_ne_zero h) (by decide)
theorem ZA : lim 0 = [] := by rw [lim]; rfl
theorem Za8 {n : Nat} (h : n ≠ 0) : lim n = n % B :: lim (n / B) := by rw [lim, dif_neg h]
theorem Zl (n : Nat) : val (lim n) = n := by
  induction n using Nat.strongRecOn with
  | _ n ih =>
    by_cases h : n = 0
    · subst h; rw [ZA]; rfl
    rw [Za8 h, val, ih _ (Nat.div_lt_self (Nat.pos_of_ne_zero h) B_gt)];exact Nat.mod_add_div n B
theorem U32.nil : U32 [] := fun _ h => by cases h
theorem U32.cons {x : Nat} {xs : List Nat} (h : x < B) (hs : U32 xs) : U32 (x :: xs) := fun y hy => by
  rcases List.mem_cons.1 hy with rfl | hy
  · exact h
  exact hs y hy
theorem U32.tail {x : Nat} {xs : List Nat} (h : U32 (x :: xs)) : U32 xs := fun y hy => h y (List.mem_cons_of_mem _ hy)
theorem U32.head {x : Nat} {xs : List Nat} (h : U32 (x :: xs)) : x < B := h x (List.mem_cons_self ..)
theorem Zz (n : Nat) : U32 (lim n) := by
  induction n using Nat.strongRecOn with
  | _ n ih =>
    by_cases h : n = 0
    · subst h; rw [ZA]; exact U32.nil
    rw [Za8 h];exact U32.cons (Nat.mod_lt _ Zbj) (ih _ (Nat.div_lt_self (Nat.pos_of_ne_zero h) B_gt))
theorem ZV (xs ys : List Nat) : val (xs ++ ys) = val xs + B ^ xs.length * val ys := by
  induction xs with
  | nil => simp [val]
  | cons x xs ih =>
    simp only [List.cons_append, val, ih, List.length_cons, Nat.pow_succ];rw [Nat.mul_add, Nat.add_assoc, Nat.mul_comm (B ^ xs.length) B, Nat.mul_assoc]
theorem Zec {xs : List Nat} (h : U32 xs) : val xs < B ^ xs.length := by
  induction xs with
  | nil => simp [val]
  | cons x xs ih =>
    have h1 := h.head;have h2 := ih h.tail;simp only [val, List.length_cons, Nat.pow_succ];have : B * (val xs + 1) ≤ B * B ^ xs.length := Nat.mul_le_mul_left _ h2;rw [Nat.mul_comm (B ^ xs.length) B];rw [Nat.mul_add] at this;omega
def Canon (xs : List Nat) : Prop := xs = [] ∨ xs.getD (xs.length - 1) 0 ≠ 0
theorem Canon.tail {x : Nat} {xs : List Nat} (h : Canon (x :: xs)) : Canon xs := by
  rcases h with h | h
  · cases h
  cases xs with
  | nil => exact .inl rfl
  | cons y ys => right; simpa [List.getD_eq_getElem?_getD] using h
theorem Canon.val_ne {xs : List Nat} (h : Canon xs) (hne : xs ≠ []) : val xs ≠ 0 := by
  induction xs with
  | nil => exact (hne rfl).elim
  | cons x xs ih =>
    cases xs with
    | nil =>
      rcases h with h | h
      · cases h
      simp [List.getD_eq_getElem?_getD] at h; simpa [val] using h
    | cons y ys =>
      have := ih h.tail (by simp);simp only [val] at this ⊢;intro e
      have h1 : B * (y + B * val ys) = 0 := by omega
      rcases Nat.mul_eq_zero.1 h1 with h2 | h2
      · cases h2
      exact this h2
theorem Zg8 {xs : List Nat} (hu : U32 xs) (hc : Canon xs) : lim (val xs) = xs := by
  induction xs with
  | nil => exact ZA
  | cons x xs ih =>
    have hne := hc.val_ne (by simp);have hx : x < B := hu.head
    have h1 : (x + B * val xs) % B = x := by rw [Nat.add_mul_mod_self_left]; exact Nat.mod_eq_of_lt hx
    have h2 : (x + B * val xs) / B = val xs := by rw [Nat.add_mul_div_left _ _ Zbj, Nat.div_eq_of_lt hx, Nat.zero_add]
    rw [Za8 hne];simp only [val];rw [h1, h2, ih hu.tail hc.tail]
theorem Zkk (n : Nat) : Canon (lim n) := by
  induction n using Nat.strongRecOn with
  | _ n ih =>
    by_cases h : n = 0
    · subst h; rw [ZA]; exact .inl rfl
    rw [Za8 h]
    right
    by_cases h2 : n / B = 0
    · rw [h2, ZA]
      have : n % B = n := Nat.mod_eq_of_lt ((Nat.div_eq_zero_iff_lt Zbj).1 h2);simp [List.getD_eq_getElem?_getD, this, h]
    have := ih _ (Nat.div_lt_self (Nat.pos_of_ne_zero h) B_gt);rw [Za8 h2] at this ⊢
    rcases this with h3 | h3
    · cases h3
    simpa [List.getD_eq_getElem?_getD] using h3
theorem Zk0 {xs : List Nat} (h : xs.getD (xs.length - 1) 0 = 0) : val xs.dropLast = val xs := by
  by_cases hx : xs = []
  · subst hx; rfl
  have e : xs = xs.dropLast ++ [xs.getLast hx] := (List.dropLast_concat_getLast hx).symm
  have hl : xs.getLast hx = 0 := by
    rw [List.getD_eq_getElem?_getD, ← List.getLast?_eq_getElem?, List.getLast?_eq_some_getLast hx] at h;exact h
  have : val xs = val (xs.dropLast ++ [xs.getLast hx]) := by rw [← e]
  rw [this, ZV, hl];simp [val]
theorem U32.dropLast {xs : List Nat} (h : U32 xs) : U32 xs.dropLast := fun y hy => h y (List.dropLast_subset _ hy)
theorem Za9 : (lim 0).length = 0 := by rw [ZA]; rfl
theorem ZcV (n : Nat) : n < B ^ (lim n).length := by
  have := Zec (Zz n)
  rwa [Zl] at this
theorem le_ln {n : Nat} (h : n ≠ 0) : B ^ ((lim n).length - 1) ≤ n := by
  induction n using Nat.strongRecOn with
  | _ n ih =>
    by_cases h2 : n / B = 0
    · rw [Za8 h, h2, ZA]; simp; omega
    have := ih _ (Nat.div_lt_self (Nat.pos_of_ne_zero h) B_gt) h2
    have h3 : (lim n).length = (lim (n / B)).length + 1 := by rw [Za8 h]; rfl
    have h4 : (lim (n / B)).length ≠ 0 := by rw [Za8 h2]; simp
    have h5 : (lim n).length - 1 = ((lim (n / B)).length - 1) + 1 := by omega
    rw [h5, Nat.pow_succ];exact Nat.le_trans (Nat.mul_le_mul_right _ this) (Nat.div_mul_le_self n B)
theorem Zgu {n k : Nat} (h : n < B ^ k) : (lim n).length ≤ k := by
  by_cases h0 : n = 0
  · subst h0; rw [Za9]; omega
  have h1 := le_ln h0;have h2 : B ^ ((lim n).length - 1) < B ^ k := Nat.lt_of_le_of_lt h1 h;have h3 := (Nat.pow_lt_pow_iff_right B_gt).1 h2;omega
theorem Z6 {n k : Nat} : (lim n).length ≤ k ↔ n < B ^ k :=
  ⟨fun h => Nat.lt_of_lt_of_le (ZcV n) (Nat.pow_le_pow_right Zbj h), Zgu⟩
theorem Zn {m n : Nat} (h : m ≤ n) : (lim m).length ≤ (lim n).length := Zgu (Nat.lt_of_le_of_lt h (ZcV n))
theorem ZB {n : Nat} : 0 < (lim n).length ↔ n ≠ 0 := by
  constructor
  · intro h e; subst e; rw [Za9] at h; omega
  intro h; rw [Za8 h]; simp
@[irreducible] def dig (n i : Nat) : Nat := n / B ^ i % B
theorem ZiE (n i : Nat) : (lim n).getD i 0 = dig n i := by
  induction i generalizing n with
  | zero =>
    by_cases h : n = 0
    · subst h; rw [ZA]; simp [dig]
    rw [Za8 h]; simp [dig]
  | succ i ih =>
    by_cases h : n = 0
    · subst h; rw [ZA]; simp [dig]
    rw [Za8 h]
    have : (n % B :: lim (n / B)).getD (i + 1) 0 = (lim (n / B)).getD i 0 := by simp [List.getD_eq_getElem?_getD]
    rw [this, ih, dig, dig, Nat.pow_succ, Nat.mul_comm (B ^ i) B, Nat.div_div_eq_div_mul]
theorem ZF (n i : Nat) : dig n i < 4294967296 := by rw [dig]; exact Nat.mod_lt _ Zbj
theorem Zat (n i : Nat) : n % B ^ (i + 1) = n % B ^ i + B ^ i * dig n i := by
  rw [dig, Nat.pow_succ, Nat.mod_mul]
abbrev numD (n : Nat) : D := sln .u32 (lim n)
theorem take_set {ys : List Nat} {i v : Nat} (h : i < ys.length) : (ys.set i v).take (i + 1) = ys.take i ++ [v] := by
  rw [List.take_add_one, List.take_set_of_le (Nat.le_refl _)];simp [h]
theorem U32.set {ys : List Nat} {i v : Nat} (h : U32 ys) (hv : v < 4294967296) : U32 (ys.set i v) := fun y hy => by
  rcases List.mem_or_eq_of_mem_set hy with h1 | h1
  · exact h y h1
  subst h1; exact hv
theorem ZaV {ys : List Nat} {i v : Nat} (h : i < ys.length) : val ((ys.set i v).take (i + 1)) = val (ys.take i) + B ^ i * v := by
  rw [take_set h, ZV, List.length_take, Nat.min_eq_left (Nat.le_of_lt h)];simp [val]
theorem U32.replicate {n : Nat} : U32 (List.replicate n 0) := fun x hx => by rw [(List.mem_replicate.1 hx).2]; decide
theorem add_step {a b i c n : Nat} {ys : List Nat} (hu : U32 ys) (hl : ys.length = n) (hi : i < ys.length) (hc : c ≤ 1) (hv : val (ys.take i) + B ^ i * c = a % B ^ i + b % B ^ i) :
    U32 (ys.set i ((c + (dig a i + dig b i)) % 4294967296)) ∧ (ys.set i ((c + (dig a i + dig b i)) % 4294967296)).length = n ∧ i + 1 ≤ (ys.set i ((c + (dig a i + dig b i)) % 4294967296)).length ∧ (c + (dig a i + dig b i)) / 4294967296 ≤ 1 ∧
      val ((ys.set i ((c + (dig a i + dig b i)) % 4294967296)).take (i + 1)) + B ^ (i + 1) * ((c + (dig a i + dig b i)) / 4294967296) = a % B ^ (i + 1) + b % B ^ (i + 1) := by
  have d1 := ZF a i;have d2 := ZF b i;refine ⟨hu.set (Nat.mod_lt _ (by decide)), by simpa using hl, by rw [List.length_set]; omega, by omega, ?_⟩;rw [ZaV hi, Zat, Zat, Nat.pow_succ, Nat.mul_assoc];generalize hs : c + (dig a i + dig b i) = s
  have h1 : B ^ i * (s % 4294967296) + B ^ i * (B * (s / 4294967296)) = B ^ i * s := by
    rw [← Nat.mul_add]; congr 1; exact Nat.mod_add_div s B
  have h2 : B ^ i * s = B ^ i * c + (B ^ i * dig a i + B ^ i * dig b i) := by rw [← hs, Nat.mul_add, Nat.mul_add]
  omega
theorem add_end {a b c n : Nat} {ys : List Nat} (hl : ys.length = n) (ha : (lim a).length < n) (hb : (lim b).length < n) (hu : U32 ys) (hv : val (ys.take n) + B ^ n * c = a % B ^ n + b % B ^ n) : val ys = a + b := by
  have h1 : ∀ m : Nat, (lim m).length < n → m < B ^ (n - 1) := fun m h => Z6.1 (by omega)
  have ha' := h1 a ha;have hb' := h1 b hb
  have h2 : B ^ n = B ^ (n - 1) * B := by rw [← Nat.pow_succ]; congr 1; omega
  have hB : B ^ (n - 1) * 2 ≤ B ^ (n - 1) * B := Nat.mul_le_mul_left _ (by decide);rw [Nat.mod_eq_of_lt (by omega), Nat.mod_eq_of_lt (by omega), List.take_of_length_le (by omega)] at hv
  have hlt : a + b < B ^ n := by omega
  have hc : c = 0 := by
    rcases Nat.eq_zero_or_pos c with h | h
    · exact h
    have : B ^ n * 1 ≤ B ^ n * c := Nat.mul_le_mul_left _ h;omega
  subst hc;omega
open Go.RowKit Go.Proofs
theorem Zl9 (xs : List Nat) (hx : U32 xs) : PC C 239 [sln .u32 xs] (fun o => o = .ret (numD (val xs))) := by
  refine Znr Tryz.func239 Tryz.ntmps239 Tryz.results239 ?_;refine ZnG 0 rfl (fun hlen => ?_);rw [Zy] at hlen;refine go ?_;refine Znw (S := List Nat) (fun ys : List Nat => [(3, .any), (4, .any), (5, .any), (6, .any), (7, .any), (8, .any), (9, .any), (10, .any), (11, .any), (12, .any), (13, .any), (14, .any), (15, .any), (16, .any), (17, .any), (18, .any), (19, .any), (0, sln .u32 ys)]) (fun ys : List Nat => []) (fun ys : List Nat => U32 ys ∧ val ys = val xs ∧ ys.length ≤ xs.length) (fun ys : List Nat => ys.length) (xs) ?_ ?_
  · exact ⟨hx, rfl, Nat.le_refl _⟩
  rintro ys hinv ih;obtain ⟨hu, hv, hl⟩ := hinv;refine ARun.seq (zzs ?_); refine Zr ?_; refine zzN ?_; refine zzi ?_; refine Zr ?_;refine AOps.bool 6 rfl (fun h => ?_) (fun h => ?_)
  · skip
    replace h := Zh h;refine gn ?_;refine Za rfl (Zk rfl rfl (ZY (by omega) (by omega))) ?_;refine Za rfl (Zm rfl rfl rfl rfl (by omega) (by omega) (Zam (by omega)) (ZM rfl)) ?_;refine Za rfl (ZP rfl rfl rfl (Zb8 (by omega))) ?_;refine go ?_;refine Znp rfl (fun h2 => ?_) (fun h2 => ?_)
    · skip
      replace h2 : ys.getD (ys.length - 1) 0 = 0 := by omega
      refine gn ?_;refine Za rfl (Zk rfl rfl (ZY (by omega) (by omega))) ?_;refine Za rfl (Ze0 (m := ys.dropLast.length) (ds := nts .u32 ys.dropLast) rfl rfl rfl rfl rfl (Zg5 rfl rfl) (by omega) (by omega) (by simp) (by simp) (by rw [Zdc]; simp [List.dropLast_eq_take])) ?_;refine go ?_;refine ARun.ag (ih (ys.dropLast) ?_ ?_)
      · exact ⟨hu.dropLast, by rw [Zk0 h2]; exact hv, by simp; omega⟩
      (simp; omega)
    refine ARun.exit rfl ?_;refine go ?_;refine Zno ?_;rw [← hv, numD, Zg8 hu (.inr (by omega))]
    try rfl
  replace h := Zj h;refine go ?_;refine Znx rfl ?_;refine ARun.exit rfl ?_;refine go ?_;refine Zno ?_;have : ys = [] := List.eq_nil_of_length_eq_zero (by omega);subst this;rw [← hv, numD, val, ZA]
  try rfl
theorem ZcZ {xs : List Nat} {n : Nat} (hx : U32 xs) (hn : xs.length = n) : PC C 239 [.sl n (nts .u32 xs)] (fun o => o = .ret (numD (val xs))) := by
  subst hn; exact Zl9 xs hx
theorem ZcP (a i : Nat) : PC C 238 [numD a, .int .i64 (i : Int)] (fun o => o = .ret (.int .u64 (dig a i : Nat))) := by
  refine Znr Tryz.func238 Tryz.ntmps238 Tryz.results238 ?_;have hd := ZF a i;have hg : (lim a).getD i 0 = dig a i := ZiE a i;refine go ?_;refine Znp rfl (fun h => ?_) (fun h => ?_)
  · skip
    refine go ?_;refine Za rfl (Zm rfl rfl rfl rfl (by omega) (by omega) (Zam (by omega)) (ZM rfl)) ?_;refine Za rfl (ZP rfl rfl rfl (Zb8 (by omega))) ?_;rw [hg];refine Za rfl (Zo rfl rfl rfl (Zt (by omega))) ?_;refine go ?_;refine Zno ?_;rfl
  refine go ?_;refine Zno ?_;rw [← hg, getD_ge (by omega)]
  try rfl
theorem ZaI (a b : Nat) (ha : (lim a).length ≤ 1099511627776) (hb : (lim b).length ≤ 1099511627776) : PC C 180 [numD a, numD b] (fun o => o = .ret (numD (a + b))) := by
  refine Znr Tryz.func180 Tryz.ntmps180 Tryz.results180 ?_;refine gn ?_;refine Za rfl (q_maxR rfl rfl nmax) ?_;refine Za rfl (Zf rfl rfl (Zi (by omega))) ?_;refine Zq rfl (ZaG rfl rfl rfl rfl rfl rfl rfl (by omega) (by rw [Zy]; omega) (Za0 _)) ?_;refine go ?_;refine Za rfl (Zbv rfl rfl rfl) ?_;refine go ?_;refine Znw (S := Nat × Nat × List Nat) (fun σ : Nat × Nat × List Nat => [(7, .any), (18, .any), (19, .any), (20, .any), (21, .any), (22, .any), (23, .any), (24, .any), (25, .any), (26, .any), (27, .any), (28, .any), (29, .any), (30, .any), (31, .any), (32, .any), (33, .any), (34, .any), (35, .any), (36, .any), (17, .int .i64 (σ.1 : Int)), (6, .int .u64 (σ.2.1 : Int))]) (fun σ : Nat × Nat × List Nat => [some ⟨nts .u32 σ.2.2, Zs, 1, true, none⟩]) (fun σ : Nat × Nat × List Nat => U32 σ.2.2 ∧ σ.2.2.length = max ((lim a).length) ((lim b).length) + 1 ∧ σ.1 ≤ σ.2.2.length ∧ σ.2.1 ≤ 1 ∧ val (σ.2.2.take σ.1) + B ^ σ.1 * σ.2.1 = a % B ^ σ.1 + b % B ^ σ.1) (fun σ : Nat × Nat × List Nat => max ((lim a).length) ((lim b).length) + 1 - σ.1) ((0, 0, List.replicate (max ((lim a).length) ((lim b).length) + 1) 0)) ?_ ?_
  · exact ⟨fun x hx => by rw [(List.mem_replicate.1 hx).2]; decide, by simp, by simp, by simp, by simp [val, Nat.mod_one]⟩
  rintro ⟨i, c, ys⟩ hinv ih;dsimp only at hinv ih ⊢;obtain ⟨hu, hl, hi, hc, hv⟩ := hinv;refine go ?_;refine Znp rfl (fun h => ?_) (fun h => ?_)
  · skip
    have d1 := ZF a i;have d2 := ZF b i;refine go ?_;refine Zc rfl rfl (ZcP a i) ?_;refine go ?_;refine Zc rfl rfl (ZcP b i) ?_;refine Za rfl (Zf rfl rfl (Zaf (by omega))) ?_;refine Za rfl (Zf rfl rfl (Zaf (by omega))) ?_;refine go ?_;refine Za rfl (Zo rfl rfl rfl ZX) ?_;refine Za rfl (ZS rfl rfl rfl rfl rfl (by omega) (by omega) (Zab rfl)) ?_;refine Zq rfl (Zad rfl rfl rfl rfl rfl rfl (by simp; omega) Zbi) ?_;refine gn ?_;refine Za rfl (Za5 rfl rfl (by omega) Zcn) ?_;refine gn ?_;refine Za rfl (Zf rfl rfl (Zi (by omega))) ?_;refine go ?_;refine ARun.ag (ih ((i + 1, (c + (dig a i + dig b i)) / 4294967296, ys.set i ((c + (dig a i + dig b i)) % 4294967296))) ?_ ?_)
    · exact add_step hu hl (by omega) hc hv
    (dsimp only; omega)
  refine ARun.exit rfl ?_;refine zzs ?_; refine Zr ?_;refine Zq rfl (Zcm rfl rfl (.cons (.row rfl (ZT _)) .nil) (ZcZ hu hl) rfl) ?_;refine go ?_;refine Zno ?_
  have hin : i = max (lim a).length (lim b).length + 1 := by omega
  subst hin;rw [add_end hl (by omega) (by omega) hu hv]
  try rfl
theorem ZhB (xs : List Nat) (hx : xs.length ≤ 35184372088832) : PC C 228 [sln .u32 xs] (fun o => o = .ret (sln .u32 xs)) := by
  refine Znr Tryz.func228 Tryz.ntmps228 Tryz.results228 ?_;refine zzs ?_; refine zza ?_; refine AOps.nil (ARun.seq (zzs ?_)); refine Zr ?_;refine Zl8 rfl rfl rfl rfl rfl (fun b hb => ?_);refine AOps.nil ?_;refine ARun.cond rfl (fun h => ?_) (fun h => ?_)
  · skip
    refine go ?_;refine ARun.ret ?_;refine ⟨_, _, _, .tmp rfl .nil, .cons .nil .nil, rfl, ?_⟩;rw [sl_nil (hb h)];rfl
  refine ARun.skip (zzs ?_);refine Zq rfl (Z9 rfl rfl rfl rfl rfl rfl rfl rfl rfl rfl rfl (by decide) (by decide)) ?_;refine Zr ?_;refine Zq rfl (Zdn rfl rfl (by decide) rfl rfl rfl rfl rfl rfl rfl rfl rfl rfl (by simp) (by simp; omega) (by rw [Zy]; omega) rfl) ?_;refine go ?_;refine ARun.ret ?_;refine ⟨_, _, _, .tmp rfl .nil, .cons (.row rfl (ZT _)) .nil, rfl, ?_⟩;simp [tupD]
theorem Zk1 (a k : Nat) : val ((lim a).take k) = a % B ^ k := by
  induction k generalizing a with
  | zero => simp [val, Nat.mod_one]
  | succ k ih =>
    by_cases h : a = 0
    · subst h; rw [ZA]; simp [val]
    rw [Za8 h, List.take_succ_cons, val, ih, Nat.pow_succ, Nat.mul_comm (B ^ k) B, Nat.mod_mul]
theorem lim_drop (a k : Nat) : (lim a).drop k = lim (a / B ^ k) := by
  induction k generalizing a with
  | zero => simp
  | succ k ih =>
    by_cases h : a = 0
    · subst h; rw [ZA]; simp [ZA]
    rw [Za8 h, List.drop_succ_cons, ih, Nat.pow_succ, Nat.mul_comm (B ^ k) B, Nat.div_div_eq_div_mul]
theorem U32.take {xs : List Nat} (h : U32 xs) (k : Nat) : U32 (xs.take k) := fun x hx => h x (List.mem_of_mem_take hx)
theorem U32.drop {xs : List Nat} (h : U32 xs) (k : Nat) : U32 (xs.drop k) := fun x hx => h x (List.mem_of_mem_drop hx)
theorem Zci {a k : Nat} (h : (lim a).length ≤ k) : a % B ^ k = a := Nat.mod_eq_of_lt (Z6.1 h)
def Zcy (x y c : Nat) : Nat := (4294967296 + x - y - c) % 4294967296
def subC (x y c : Nat) : Nat := if x < y + c then 1 else 0
theorem Zjf {x y c : Nat} (hx : x < 4294967296) (hy : y < 4294967296) (hc : c ≤ 1) : IntKind.u32.wrap (IntKind.u64.wrap (IntKind.u64.wrap ((x : Int) - (y : Int)) - (c : Int))) = ((Zcy x y c : Nat) : Int) := by
  rw [IntKind.wrap_u32, IntKind.wrap_u64, IntKind.wrap_u64, Zcy]; omega
theorem sub_c {x y c : Nat} (hx : x < 4294967296) (hy : y < 4294967296) (hc : c ≤ 1) : (IntKind.u64.wrap (IntKind.u64.wrap ((x : Int) - (y : Int)) - (c : Int))).fdiv (2 ^ min (63 : Int).toNat IntKind.u64.bits) = ((subC x y c : Nat) : Int) := by
  have : (2 : Int) ^ min (63 : Int).toNat IntKind.u64.bits = 9223372036854775808 := by decide
  rw [this, Int.fdiv_eq_ediv_of_nonneg _ (by omega), IntKind.wrap_u64, IntKind.wrap_u64, subC]
  split <;> omega
theorem subC_le (x y c : Nat) : subC x y c ≤ 1 := by unfold subC; split <;> omega
theorem Zjg (x y c : Nat) : Zcy x y c < 4294967296 := Nat.mod_lt _ (by decide)
theorem ZhS {x y c : Nat} (hx : x < 4294967296) (hy : y < 4294967296) (hc : c ≤ 1) : Zcy x y c + (y + c) = x + 4294967296 * subC x y c := by
  unfold Zcy subC; split <;> omega
theorem sub_step {a b i c n : Nat} {ys : List Nat} (hu : U32 ys) (hl : ys.length = n) (hi : i < ys.length) (hc : c ≤ 1) (hv : val (ys.take i) + b % B ^ i = a % B ^ i + B ^ i * c → True) (hv' : val (ys.take i) + b % B ^ i = a % B ^ i + B ^ i * c) :
    U32 (ys.set i (Zcy (dig a i) (dig b i) c)) ∧ (ys.set i (Zcy (dig a i) (dig b i) c)).length = n ∧ i + 1 ≤ (ys.set i (Zcy (dig a i) (dig b i) c)).length ∧ subC (dig a i) (dig b i) c ≤ 1 ∧
      val ((ys.set i (Zcy (dig a i) (dig b i) c)).take (i + 1)) + b % B ^ (i + 1) = a % B ^ (i + 1) + B ^ (i + 1) * subC (dig a i) (dig b i) c := by
  refine ⟨hu.set (Zjg _ _ _), by simpa using hl, by rw [List.length_set]; omega, subC_le _ _ _, ?_⟩;rw [ZaV hi, Zat, Zat, Nat.pow_succ, Nat.mul_assoc];have h := congrArg (B ^ i * ·) (ZhS (ZF a i) (ZF b i) hc);simp only [Nat.mul_add] at h;have hB : B ^ i * (4294967296 * subC (dig a i) (dig b i) c) = B ^ i * (B * subC (dig a i) (dig b i) c) := rfl;omega
theorem sub_end {a b c n : Nat} {ys : List Nat} (hl : ys.length = n) (ha : (lim a).length ≤ n) (hba : b ≤ a) (hc : c ≤ 1) (hu : U32 ys) (hv : val (ys.take n) + b % B ^ n = a % B ^ n + B ^ n * c) : val ys = a - b := by
  have ha' := Z6.1 ha;rw [Nat.mod_eq_of_lt (by omega), Nat.mod_eq_of_lt ha', List.take_of_length_le (by omega)] at hv;have hlt := Zec hu;rw [hl] at hlt
  have hc0 : c = 0 := by
    rcases Nat.eq_zero_or_pos c with h | h
    · exact h
    have : c = 1 := by omega
    subst this;omega
  subst hc0;omega
theorem Zaj {k : IntKind} {a i : Nat} (h : i < (lim a).length) : ((nts k (lim a)).drop i)[0]? = some (D.int k (dig a i : Nat)) := by
  rw [Zb8 h, ZiE]
theorem ZdH (q : Nat) : B ^ q = 2 ^ (32 * q) := by rw [Nat.pow_mul]; rfl
theorem Zgv (n : Nat) : 2 ^ n = B ^ (n / 32) * 2 ^ (n % 32) := by
  rw [ZdH, ← Nat.pow_add]; congr 1; omega
theorem Zkl {x r : Nat} (hx : x < 4294967296) (hr : r < 32) : x * 2 ^ r < 9223372036854775808 := by
  have h1 : 2 ^ r ≤ 2 ^ 31 := Nat.pow_le_pow_right (by decide) (by omega);have h2 : x * 2 ^ r ≤ 4294967295 * 2 ^ 31 := Nat.mul_le_mul (by omega) h1;omega
theorem Zkm {x r c : Nat} (hx : x < 4294967296) (hc : c < 2 ^ r) : (c + x * 2 ^ r) / 4294967296 < 2 ^ r := by
  rw [Nat.div_lt_iff_lt_mul (by decide)];have h : (x + 1) * 2 ^ r ≤ 4294967296 * 2 ^ r := Nat.mul_le_mul_right _ hx;rw [Nat.add_mul] at h;have := Nat.mul_comm 4294967296 (2 ^ r);omega
theorem shl_step {a q r i c n : Nat} {ys : List Nat} (hu : U32 ys) (hl : ys.length = n) (hi : q + i + 1 ≤ ys.length) (hc : c < 2 ^ r) (hv : val (ys.take (q + i)) + B ^ (q + i) * c = a % B ^ i * 2 ^ r * B ^ q) :
    U32 (ys.set (q + i) ((c + dig a i * 2 ^ r) % 4294967296)) ∧ (ys.set (q + i) ((c + dig a i * 2 ^ r) % 4294967296)).length = n ∧ (c + dig a i * 2 ^ r) / 4294967296 < 2 ^ r ∧
      val ((ys.set (q + i) ((c + dig a i * 2 ^ r) % 4294967296)).take (q + (i + 1))) + B ^ (q + (i + 1)) * ((c + dig a i * 2 ^ r) / 4294967296) = a % B ^ (i + 1) * 2 ^ r * B ^ q := by
  refine ⟨hu.set (Nat.mod_lt _ (by decide)), by simpa using hl, Zkm (ZF a i) hc, ?_⟩;rw [← Nat.add_assoc, ZaV (by omega), Zat, Nat.pow_succ, Nat.mul_assoc];generalize hs : c + dig a i * 2 ^ r = s
  have h1 : B ^ (q + i) * (s % 4294967296) + B ^ (q + i) * (B * (s / 4294967296)) = B ^ (q + i) * s := by
    rw [← Nat.mul_add]; congr 1; exact Nat.mod_add_div s B
  have h2 : B ^ (q + i) * s = B ^ (q + i) * c + B ^ (q + i) * (dig a i * 2 ^ r) := by rw [← hs, Nat.mul_add]
  have h3 : (a % B ^ i + B ^ i * dig a i) * 2 ^ r * B ^ q = a % B ^ i * 2 ^ r * B ^ q + B ^ (q + i) * (dig a i * 2 ^ r) := by
    rw [Nat.add_mul, Nat.add_mul, Nat.pow_add]
    congr 1
    simp only [Nat.mul_comm, Nat.mul_left_comm, Nat.mul_assoc]
  omega
theorem shl_end {a q r c n : Nat} {ys : List Nat} (hl : ys.length = n) (hn : n = q + (lim a).length + 1) (hv : val (ys.take (q + (lim a).length)) + B ^ (q + (lim a).length) * c = a % B ^ (lim a).length * 2 ^ r * B ^ q) : val (ys.set (q + (lim a).length) c) = a * (B ^ q * 2 ^ r) := by
  have h := ZaV (v := c) (show q + (lim a).length < ys.length by omega);rw [List.take_of_length_le (by rw [List.length_set]; omega)] at h;rw [h, hv, Zci (Nat.le_refl _), Nat.mul_assoc, Nat.mul_comm (2 ^ r)]
theorem Zcz (n : Nat) : val (List.replicate n 0) = 0 := by
  induction n with
  | zero => rfl
  | succ n ih => rw [List.replicate_succ, val, ih]; rfl
end Go.V
