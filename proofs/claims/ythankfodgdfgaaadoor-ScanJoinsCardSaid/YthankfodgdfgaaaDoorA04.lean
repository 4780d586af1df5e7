/- A part of the proof: abstract values, rules for the steps of the program's form, and contracts of its functions, each proved; no condition. -/
import Derived.Test.YthankfodgdfgaaaDoorA03
import Derived.WalkSpells
import Derived.Recover
import Derived.Laws.BytesString
set_option linter.unusedVariables false
set_option linter.unusedSimpArgs false
set_option linter.unnecessarySimpa false
/- MORE OPERATIONS: nil slices, parts of rows, copy. -/
namespace Go.V
open Go.RowKit
section
variable {C : Ctx} {Q : Post} {ops : Array Oper} {rest : List Oper} {k : List Item} {env : List D} {H H' : Heap} {df : List ADef}
variable {dst : Option Tmp} {ty : TypeId} {pos : String} {aft : Array Edge} {gd : Option (Nat × Bool)} {d : D} {x y z : Operand} {T e : TypeId} {desc descE : TypeDesc} {size bytes sizeE bytesE : Nat} {zero zeroE : Value} {te tee : TE}
end
end Go.V
namespace Go.V
end Go.V
/- ARITHMETIC ON NUMBERS THAT ARE NOT NEGATIVE, told in Nat. -/
namespace Go.V
open Go.RowKit
theorem nshl_u64 {y : Int} {m s : Nat} (hy : y = (s : Int)) (hs : s ≤ 64) (h : m * 2 ^ s < 18446744073709551616) : IntKind.u64.wrap ((m : Int) * 2 ^ min y.toNat IntKind.u64.bits) = ((m * 2 ^ s : Nat) : Int) := by
  subst hy
  rw [Int.toNat_natCast, show IntKind.u64.bits = 64 from rfl, Nat.min_eq_left hs]
  have : (m : Int) * 2 ^ s = ((m * 2 ^ s : Nat) : Int) := by simp
  rw [this]
  exact IntWalk.u64_in _ (by omega)
theorem fdiv_nat {m n : Nat} : (m : Int).fdiv (n : Int) = ((m / n : Nat) : Int) := by
  rw [Int.fdiv_eq_ediv_of_nonneg _ (Int.natCast_nonneg n)]; simp
theorem nshr {y : Int} {k : IntKind} {m s : Nat} (hy : y = (s : Int)) (hs : s ≤ k.bits) : (m : Int).fdiv (2 ^ min y.toNat k.bits) = ((m / 2 ^ s : Nat) : Int) := by
  subst hy
  rw [Int.toNat_natCast, Nat.min_eq_left hs]
  have : (2 : Int) ^ s = ((2 ^ s : Nat) : Int) := by simp
  rw [this, fdiv_nat]
theorem nrem {y : Int} {m n : Nat} (hy : y = (n : Int)) : (m : Int).tmod y = ((m % n : Nat) : Int) := by
  subst hy; exact (Int.ofNat_tmod m n).symm
example : ((32 : Int)) = ((32 : Nat) : Int) := rfl
end Go.V
namespace Go.V
section
variable {C : Ctx} {env : List D} {H : Heap} {dst : Option Tmp} {ty : TypeId} {pos : String} {aft : Array Edge} {gd : Option (Nat × Bool)} {x y : Operand}
theorem q_orR {k : IntKind} {m n r : Int} {xt yt : TypeId} (hx : evO C env x = some (.int k m)) (hy : evO C env y = some (.int k n)) (hr : k.wrap ((BitVec.ofInt k.bits m ||| BitVec.ofInt k.bits n).toNat : Int) = r) : OpQ C ⟨dst, .binOp .or xt x y yt, ty, pos, aft, gd⟩ env H (.int k r) := by
  subst hr; exact q_int hx hy rfl
theorem q_andR {k : IntKind} {m n r : Int} {xt yt : TypeId} (hx : evO C env x = some (.int k m)) (hy : evO C env y = some (.int k n)) (hr : k.wrap ((BitVec.ofInt k.bits m &&& BitVec.ofInt k.bits n).toNat : Int) = r) : OpQ C ⟨dst, .binOp .and xt x y yt, ty, pos, aft, gd⟩ env H (.int k r) := by
  subst hr; exact q_int hx hy rfl
end
end Go.V
/- CALLS THAT WRITE what they are handed; tests that are decided; windows of rows. -/
namespace Go.V
open Go.RowKit
section
variable {C : Ctx} {Q : Post} {ops : Array Oper} {rest : List Oper} {k : List Item} {env : List D} {H H' : Heap} {df : List ADef}
variable {dst : Option Tmp} {ty : TypeId} {pos : String} {aft : Array Edge} {gd : Option (Nat × Bool)} {d : D} {x y : Operand}
theorem Zad {f : FuncId} {caps ds ds' : List D} {args : List Operand} {tys : Array TypeId} {R : Out → Heap → Prop} {E : D → List D} [hput : ∀ d, Put env dst d (E d)] (hg : gOk ops.toList env gd = some true) (hx : evO C env x = some (.clos f caps)) (ha : evOs C env args = some ds) (hds : ds ++ caps = ds') (hc : HC C f H ds' R)
    (hk : ∀ d H', R (.ret d) H' → AOps C Q ops rest k (E d) H' df) (hp : ∀ d H', R (.pan d) H' → Q (.pan d) env H' df) : AOps C Q ops (⟨dst, .call ⟨.value x, args.toArray, tys⟩, ty, pos, aft, gd⟩ :: rest) k env H df := by
  subst hds
  exact AOps.opH hg (o_call (ids := []) hx ha (FzL.sames _) hc) (fun d H' h => by rw [(hput d).eq]; exact hk d H' h) hp
theorem HC.run {f : FuncId} {fn : Func} {c : Code} {args : List D} {R : Out → Heap → Prop} {n : Nat} (hf : C.P.funcs[f]? = some fn) (hen : Enters C.P f) (hb : fn.body = some c) (hn : fn.ntmps = n) {rs : List ResultVar} (hrs : fn.results.toList = rs) {env0 : List D} (he : args ++ List.replicate (n - args.length) (.tup []) = env0)
    (h : ARun C (QFin C rs R) [.code c] env0 H []) : HC C f H args R := by
  subst hrs; subst he
  exact HC.of_run hf hen hb hn h
end
theorem win_get {k : IntKind} {pre zs post : List Nat} {off i : Nat} (ho : pre.length = off) (h : i < zs.length) : (nts k (pre ++ zs ++ post))[off + i]? = some (D.int k (zs.getD i 0 : Nat)) := by
  subst ho
  rw [nts_get (by simp; omega)]
  congr 3
  rw [List.getD_eq_getElem?_getD, List.getD_eq_getElem?_getD, List.append_assoc, List.getElem?_append_right (by omega), List.getElem?_append_left (by omega)]
  congr 2
  omega
theorem win_set {k : IntKind} {pre zs post : List Nat} {off i v : Nat} (ho : pre.length = off) (h : i < zs.length) : (nts k (pre ++ zs ++ post)).set (off + i) (D.int k (v : Int)) = nts k (pre ++ zs.set i v ++ post) := by
  subst ho
  rw [nts_set]
  congr 1
  rw [List.append_assoc, List.append_assoc, List.set_append_right _ _ (by omega), List.set_append_left _ _ (by omega)]
  congr 3
  omega
end Go.V
namespace Go.V
theorem ARun.join {C : Ctx} {Q : Post} {k : List Item} {env : List D} {H : Heap} {df : List ADef} {S : Type} {c : Code} {E : S → List D} (cs : S → List (Nat × D)) (J : S → Prop) [hE : ∀ s, Puts env (cs s) (E s)] (h1 : (∀ s, J s → ARun C Q k (E s) H df) → ARun C Q (.code c :: k) env H df) (h2 : ∀ s, J s → ARun C Q k (E s) H df) : ARun C Q (.code c :: k) env H df := h1 h2
end Go.V
namespace Go.V
open Go.RowKit
inductive DChP (C : Ctx) (ops : Array Oper) (H : Heap) (KP : D → Prop) (P : List D → Prop → Prop) : List Oper → List D → Prop → Prop
  | nil {env : List D} {G : Prop} : P env G → DChP C ops H KP P [] env G
  | op {o : Oper} {rest : List Oper} {env env' : List D} {d : D} {G : Prop} : gOk ops.toList (maskF (o.looksAt ops) 0 env) o.guard = some true → OpQ C o (maskF (o.looksAt ops) 0 env) H d → [Put env o.dst d env'] → DChP C ops H KP P rest env' G → DChP C ops H KP P (o :: rest) env G
  | opP {o : Oper} {rest : List Oper} {env env' : List D} {d : D} {g G : Prop} : gOk ops.toList (maskF (o.looksAt ops) 0 env) o.guard = some true → OpG C o (maskF (o.looksAt ops) 0 env) H d g KP → [Put env o.dst d env'] → DChP C ops H KP P rest env' (G ∧ g) → DChP C ops H KP P (o :: rest) env G
  | skip {o : Oper} {rest : List Oper} {env env' : List D} {G : Prop} : gOk ops.toList (maskF (o.looksAt ops) 0 env) o.guard = some false → [Put env o.dst (.tup []) env'] → DChP C ops H KP P rest env' G → DChP C ops H KP P (o :: rest) env G
theorem DChP.chain {C : Ctx} {ops : Array Oper} {H : Heap} {KP : D → Prop} {P : List D → Prop → Prop} (hP : ∀ env G G', (G → G') → P env G' → P env G) {l : List Oper} {env : List D} {G : Prop} (h : DChP C ops H KP P l env G) : ∃ envF G', DCh C ops H KP l env envF G' ∧ P envF (G ∧ G') := by
  induction h with
  | nil h => exact ⟨_, _, .nil, hP _ _ _ (fun x => x.1) h⟩
  | op h1 h2 _ ih => obtain ⟨eF, G', k1, k2⟩ := ih; exact ⟨eF, G', .op h1 h2 k1, k2⟩
  | opP h1 h2 _ ih => obtain ⟨eF, G', k1, k2⟩ := ih; exact ⟨eF, _, .opP h1 h2 k1, hP _ _ _ (fun x => ⟨⟨x.1, x.2.1⟩, x.2.2⟩) k2⟩
  | skip h1 _ ih => obtain ⟨eF, G', k1, k2⟩ := ih; exact ⟨eF, G', .skip h1 k1, k2⟩
theorem ARun.drawnP {C : Ctx} {Q : Post} {l suf : List Oper} {k : List Item} {env : List D} {H : Heap} {df : List ADef} {id : Nat} (n : Nat) {pre : List Oper} (KP : D → Prop) (hmix : C.P.follows .mixedOrders = true) (hpre : l.take n = pre) (hsuf : l.drop n = suf) (hB : okDraw l pre.length = true) (hp : ∀ env' d, KP d → Q (.pan d) env' H df)
    (hch : DChP C l.toArray H KP (fun envF G => G → AOps C Q l.toArray suf k envF H df) pre env True) : ARun C Q (.code (.region id l.toArray true) :: k) env H df := by
  obtain ⟨envF, G', h1, h2⟩ := hch.chain (fun _ _ _ hg h x => h (hg x))
  exact ARun.drawn hmix hpre hsuf hB h1 hp (fun x => h2 ⟨trivial, x⟩)
end Go.V
namespace Go.V
open Go.RowKit
end Go.V
/- SLICES THAT ARE NEVER WRITTEN, from their birth on. -/
namespace Go.V
open Go.RowKit
section
variable {C : Ctx} {env : List D} {H : Heap} {dst : Option Tmp} {ty : TypeId} {pos : String} {aft : Array Edge} {gd : Option (Nat × Bool)} {x y z : Operand} {d : D}
variable {T e : TypeId} {desc descE : TypeDesc} {size bytes sizeE bytesE : Nat} {zero zeroE : Value} {tee : TE}
theorem SR.allocK {C : Ctx} {L0 : Nat → Prop} {w : World} {μ : List Nat} {H : Heap} (hs : SR C L0 w μ H) (ob : Obj) : SR C L0 (w.alloc ob) μ H ∧ Evo w (w.alloc ob) μ μ H H := by
  have he : Evo w (w.alloc ob) μ μ H H := ⟨rfl, rfl, rfl, by simp, fun b hb _ => Below.heap_alloc w _ b hb, fun _ _ h => h, fun _ _ h => h, fun i x hx => ⟨x, hx, fun o' e => ⟨o', e, rfl, rfl, rfl, fun b cur _ hw => ⟨cur, by rw [Below.heap_alloc w _ b (Array.getElem?_eq_some_iff.1 hw).1]; exact hw, rfl⟩⟩⟩⟩
  refine ⟨hs.next he hs.len (fun i o b h1 h2 => ?_) hs.inj hs.own, he⟩
  exact (hs.obj i o b h1 h2).same (Below.heap_alloc w _ b (hs.block_lt h1 h2))
theorem OpQ.newF {o : Oper} {dv : D} (h : ∀ (L0 : Nat → Prop) (w : World) (μ : List Nat) (a : Act), SR C L0 w μ H → (∀ x d, evO C env x = some d → VR w (forb L0 μ H) μ H d (a.eval x)) →
      ∃ (v : Value) (cur : Array Value), (execOp a.eval o).run C.P w = .ok (.value v) (w.alloc (.cells cur e)) ∧ (Evo w (w.alloc (.cells cur e)) μ μ H H → VR (w.alloc (.cells cur e)) (forb L0 μ H) μ H dv v)) : OpQ C o env H dv := by
  refine ⟨fun L0 w μ a hs hv => ?_⟩
  obtain ⟨v, cur, h1, h4⟩ := h L0 w μ a hs (fun x d hx => evO_ok hs hv hx)
  unfold Oper.wp
  rw [h1]
  obtain ⟨s1, s2⟩ := hs.allocK (.cells cur e)
  exact ⟨v, dv, H, μ, ⟨rfl, rfl⟩, rfl, s1, h4 s2, s2⟩
theorem Ze2 {n : Nat} {zs cs : List D} {dz : D} {parts : List (Nat × Operand)} {ps : List (Nat × D)} (ht : UN C T (.slice e)) (te : TIC C e descE sizeE bytesE zeroE) (hz : constD zeroE = some dz) (hzs : cellsD dz = some zs) (hzk : zs.all (okCell H) = true) (hzl : zs.length = sizeE)
    (hps : (parts.mapM fun p => (evO C env p.2).map fun d => (p.1, d)) = some ps) (hk : okParts H ps = true) (hf : fillD (fun i => some (i * sizeE, sizeE)) (List.flatten (List.replicate n zs)) ps = some cs) (hck : cs.all (okCell H) = true) (hcl : cs.length = n * sizeE) (hn : n * sizeE ≤ 16777216) (h0 : 0 < sizeE) (hpu : D.pure.pures cs = true) :
    OpQ C ⟨dst, .buildSlice T n parts.toArray, ty, pos, aft, gd⟩ env H (.sl n cs) :=
  OpQ.newF (e := e) fun L0 w μ a hs he => by
    obtain ⟨e1, e2⟩ := evParts hps
    obtain ⟨z1, _⟩ := cellsD_ok (w := w) (L := forb L0 μ H) (μ := μ) (H := H) hzs hzk (constD_ok hz)
    have zl := VRs_length z1
    rw [Array.length_toList] at zl
    obtain ⟨i, i1, i2, i3, i4⟩ := te.infos
    have hbase : VRs w (forb L0 μ H) μ H (List.flatten (List.replicate n zs)) ((Array.range (n * sizeE)).map (fun j => zeroE.cells[j % zeroE.cells.size]!)).toList := by
      refine VRs_mk (by simp [hzl]) fun j d v h1 h2 => ?_
      have hj : j < n * zs.length := by rw [← flatten_len]; exact (List.getElem?_eq_some_iff.1 h1).1
      rw [flatten_get (by omega) n j hj] at h1
      obtain ⟨u, k1, k2⟩ := VRs_get z1 h1
      have h2' : zeroE.cells[j % zeroE.cells.size]! = v := by
        simp only [Array.toList_map, Array.toList_range, List.getElem?_map] at h2
        rw [List.getElem?_range (by rw [← hzl]; exact hj)] at h2
        simpa using h2
      have k1' : zeroE.cells[j % zs.length]? = some u := by simpa using k1
      rw [zl] at h2'
      rw [getElem!_def, k1'] at h2'
      simp only at h2'
      subst h2'
      exact k2
    obtain ⟨cells, r1, r2⟩ := fill_ok (w := w) (L := forb L0 μ H) (μ := μ) (H := H) (place := fun i => some (i * sizeE, sizeE)) (ps := ps) (vs := parts.map fun p => (p.1, a.eval p.2)) (cells := (Array.range (n * sizeE)).map (fun j => zeroE.cells[j % zeroE.cells.size]!)) (by simp [e1, Function.comp_def]) (fun j i d i' v h1 h2 => by
      obtain ⟨x, k1, k2⟩ := e2 j i d h1
      simp only [List.getElem?_map, k1, Option.map_some, Option.some.injEq, Prod.mk.injEq] at h2
      obtain ⟨rfl, rfl⟩ := h2
      exact ⟨he _ _ k2, fun ds hd => okParts_at hk h1 ds hd⟩) hbase hf
    have rl := VRs_length r2
    rw [Array.length_toList] at rl
    refine ⟨.slice (some ⟨w.heap.size, 0, none⟩) n n, cells, ?_, fun hl => ?_⟩
    · have hm : (parts.toArray.map fun p => (p.1, a.eval p.2)) = (parts.map fun p => (p.1, a.eval p.2)).toArray := by simp
      have n1 : ¬ (n * sizeE > 2 ^ 24) := by omega
      simp only [execOp, hm, Instr.buildSlice, Sem.run_bind, run_underlying ht, Result.andThen_ok, te.run_size, n1, if_false, Sem.run_pure]
      by_cases hn0 : n * sizeE = 0
      · simp only [hn0, if_true, Sem.run_pure, Result.andThen_ok]
        rw [hn0] at r1
        have r1' : Instr.fill (fun i => some (i * sizeE, sizeE)) ((Array.range 0).map (fun j => (#[] : Array Value)[j % (#[] : Array Value).size]!)) (parts.map fun p => (p.1, a.eval p.2)) = some cells := by
          rw [← r1, emp_range, emp_range]
        simp only [r1', newRow, Sem.run_bind, run_newObj_alloc, Result.andThen_ok, Sem.run_pure]
      simp only [hn0, if_false, Sem.run_bind, te.run_zero, Result.andThen_ok, Sem.run_pure]
      simp only [r1, newRow, Sem.run_bind, run_newObj_alloc, Result.andThen_ok, Sem.run_pure]
    simp only [VR]
    have hnm : n ≤ 16777216 := Nat.le_trans (Nat.le_mul_of_pos_right n h0) hn
    refine ⟨some ⟨w.heap.size, 0, none⟩, n, rfl, Nat.le_refl _, by unfold maxLen; omega, fun _ => ⟨⟨w.heap.size, 0, none⟩, rfl, by simp, fun hfb => Nat.lt_irrefl _ (hs.forb_lt hfb), VRL_mk fun j d hd => ?_⟩⟩
    obtain ⟨v, k1, k2⟩ := VRs_get r2 hd
    have hpd : d.pure = true := by
      have key : ∀ (l : List D) (j : Nat), D.pure.pures l = true → l[j]? = some d → d.pure = true := by
        intro l
        induction l with
        | nil => intro j _ h; simp at h
        | cons c l ih =>
          intro j h hj
          simp only [D.pure.pures, Bool.and_eq_true] at h
          cases j with
          | zero => simp at hj; subst hj; exact h.1
          | succ j => simp only [List.getElem?_cons_succ] at hj; exact ih j h.2 hj
      exact key cs j hpu hd
    refine ⟨v, ?_, okCell_one (List.all_eq_true.1 hck _ (List.mem_of_getElem? hd)) k2, VR.step (hl.step L0).pure (VR.drop hpd k2)⟩
    rw [Nat.zero_add, add_lit, cell_row (heap_alloc_new w _)]
    simpa using k1
theorem ZbH {n S b : Nat} {zv : Value} {zs cs : List D} {dz : D} {parts : List (Nat × Operand)} {ps : List (Nat × D)} (ht : C.ty T = some ⟨.slice e, S, b, zv⟩) (hee : C.ty e = some tee) (hz : constD tee.zero = some dz) (hzs : cellsD dz = some zs) (hzk : zs.all (okCell H) = true) (hzl : zs.length = tee.size)
    (hps : (parts.mapM fun p => (evO C env p.2).map fun d => (p.1, d)) = some ps) (hok : okParts H ps = true) (hf : fillD (fun i => some (i * tee.size, tee.size)) (List.flatten (List.replicate n zs)) ps = some cs) (hck : cs.all (okCell H) = true) (hcl : cs.length = n * tee.size) (hn : n * tee.size ≤ 16777216) (h0 : 0 < tee.size) (hpu : D.pure.pures cs = true) : OpQ C ⟨dst, .buildSlice T n parts.toArray, ty, pos, aft, gd⟩ env H (.sl n cs) :=
  Ze2 (ty_slice ht) (ty_tic hee).1 hz hzs hzk hzl hps hok hf hck hcl hn h0 hpu
end
end Go.V
/- DEFERRED FUNCTIONS THAT RECOVER. -/
namespace Go.V
open Go.RowKit
def recD : AMode → D × AMode
  | .panicking d => (d, .recovered d)
  | m => (.niliface, m)
theorem DC.of_run {C : Ctx} {f : FuncId} {fn : Func} {id : Nat} {c2 : Code} {args : List D} {H : Heap} {m : AMode} {R : AMode → Heap → Prop} {n : Nat} {t1 t2 : Tmp} {ty1 ty2 : TypeId} {p1 p2 : String} {a1 a2 : Array Edge} {at1 : Array TypeId} {env1 env2 : List D}
    (hf : C.P.funcs[f]? = some fn) (hen : Enters C.P f) (hb : fn.body = some (.seq (.region id #[⟨some t1, .call ⟨.builtin .recover, #[], at1⟩, ty1, p1, a1, none⟩, ⟨some t2, .assign (.tmp t1), ty2, p2, a2, none⟩] false) c2)) (hn : fn.ntmps = n) (hres : fn.results.toList = [])
    (hm : ∀ d, m ≠ .recovered d) (he1 : envPut (args ++ List.replicate (n - args.length) (.tup [])) (some t1) (recD m).1 = env1) (ht1 : env1[t1]? = some (recD m).1) (he2 : envPut env1 (some t2) (recD m).1 = env2)
    (h : ARun C ⟨none, fun x _ H' df => df = [] ∧ match x with | .ret => R (recD m).2 H' | .norm => R (recD m).2 H' | _ => False⟩ [.code c2] env2 H []) : DC C f H args m R := by
  refine ⟨hen, fun L0 w μ vs u hs ha hu c₀ cs hc₀ => ?_⟩
  have hl := VRs_length ha
  let b : Frame := { (default : Frame) with fn := f, kind := .deferred }
  let a : Act := { tmps := vs.toArray ++ Array.replicate (fn.ntmps - vs.toArray.size) undef, defers := [] }
  have henter : Frame.enter C.P f vs.toArray .deferred = b.at a [.code (.seq (.region id #[⟨some t1, .call ⟨.builtin .recover, #[], at1⟩, ty1, p1, a1, none⟩, ⟨some t2, .assign (.tmp t1), ty2, p2, a2, none⟩] false) c2)] := by
    simp [Frame.enter, Frame.at, hf, hb, b, a]
  have htm : VRs w (forb L0 μ H) μ H (args ++ List.replicate (n - args.length) (.tup [])) a.tmps.toList := by
    have : a.tmps.toList = vs ++ List.replicate (n - args.length) undef := by
      simp [a, hn, hl]
    rw [this]
    exact VRs_append ha (VRs_repl _)
  have hrec : ∃ (v : Value) (u' : FrameMode), VR w (forb L0 μ H) μ H (recD m).1 v ∧ ModeR w (forb L0 μ H) μ H (recD m).2 u' ∧
      (match recoverD (c₀ :: cs) with | some (v, cs') => (v, cs') | none => (.nilIface, c₀ :: cs)) = (v, { c₀ with mode := u' } :: cs) := by
    cases m with
    | returning =>
      have hu' : u = .returning := hu
      subst hu'
      refine ⟨.nilIface, .returning, by simp [recD, VR], rfl, ?_⟩
      have : c₀ = { c₀ with mode := .returning } := by rw [← hc₀]
      simp only [recoverD, hc₀]
      rw [← this]
    | panicking d =>
      obtain ⟨v, hu', hvd⟩ := hu
      subst hu'
      refine ⟨v, .panicking [{ v := v, recovered := true }], hvd, ⟨v, rfl, hvd⟩, ?_⟩
      simp only [recoverD, hc₀, pan1]
    | recovered d => exact (hm d rfl).elim
  obtain ⟨v, u', hv, hu', hrd⟩ := hrec
  let aa : Act := (a.put (some t1) v).put (some t2) v
  have hv1 : VRs w (forb L0 μ H) μ H env1 (a.put (some t1) v).tmps.toList := by rw [← he1]; exact VRs_put htm hv
  have hev1 : (a.put (some t1) v).eval (.tmp t1) = v := by
    obtain ⟨u1, k1, k2⟩ := VRs_get hv1 ht1
    simp only [Act.eval]
    rw [getD_of_list k1]
    have : (a.put (some t1) v).tmps.toList[t1]? = some v := by
      have hlt := (List.getElem?_eq_some_iff.1 k1).1
      simp only [Act.put, Array.toList_setIfInBounds] at hlt ⊢
      rw [List.getElem?_set]
      simp at hlt ⊢
      exact hlt
    rw [this] at k1
    injection k1 with k1
    exact k1.symm
  have hv2 : VRs w (forb L0 μ H) μ H env2 aa.tmps.toList := by rw [← he2]; exact VRs_put hv1 hv
  have hstep : ∃ e a' cs' w', (e = .normal ∧ a' = aa ∧ cs' = { c₀ with mode := u' } :: cs ∧ w' = w) ∧ Arrives C.P (lone (b.at a (.inRegion #[⟨some t1, .call ⟨.builtin .recover, #[], at1⟩, ty1, p1, a1, none⟩, ⟨some t2, .assign (.tmp t1), ty2, p2, a2, none⟩] [0, 1] :: [.code c2])) (c₀ :: cs) w) b [.code c2] cs' e a' w' := by
    refine wp_opsS (P := C.P) (Q := fun e a' cs' w' => e = .normal ∧ a' = aa ∧ cs' = { c₀ with mode := u' } :: cs ∧ w' = w) [0, 1] a (c₀ :: cs) w ?_ b [.code c2] rfl rfl
    have hasg : ∀ (w : World), (execOp (a.put (some t1) v).eval ⟨some t2, .assign (.tmp t1), ty2, p2, a2, none⟩).run C.P w = .ok (.value v) w := by
      intro w; simp only [execOp, hev1, Sem.run_pure]
    have hro : ∀ (w : World), (execOp a.eval ⟨some t1, .call ⟨.builtin .recover, #[], at1⟩, ty1, p1, a1, none⟩).run C.P w = .ok .recover w := by
      intro w; simp [execOp, resolve, invoke, builtin]
    have fin : ∀ cs', cs' = { c₀ with mode := u' } :: cs → wpOpsS C.P #[⟨some t1, .call ⟨.builtin .recover, #[], at1⟩, ty1, p1, a1, none⟩, ⟨some t2, .assign (.tmp t1), ty2, p2, a2, none⟩] (fun e a' cs' w' => e = .normal ∧ a' = aa ∧ cs' = { c₀ with mode := u' } :: cs ∧ w' = w) [1] (a.put (some t1) v) cs' w := by
      intro cs' hcs
      simp [wpOpsS, Region.wanted, hasg, Oper.upon, hcs, aa]
    cases hrr : recoverD (c₀ :: cs) with
    | none =>
      rw [hrr] at hrd
      injection hrd with h1 h2
      subst h1
      have := fin (c₀ :: cs) h2
      simpa [wpOpsS, Region.wanted, hro, hrr] using this
    | some p =>
      obtain ⟨pv, pcs⟩ := p
      rw [hrr] at hrd
      injection hrd with h1 h2
      subst h1
      have := fin pcs h2
      simpa [wpOpsS, Region.wanted, hro, hrr] using this
  obtain ⟨e0, a0, cs0, w0, ⟨q1, q2, q3, q4⟩, harr⟩ := hstep
  rw [q1, q2, q3, q4] at harr
  obtain ⟨e, a', w', ⟨x, env, H', μ', df, ⟨hdf, hR⟩, s1, hv', hd', hx', he'⟩, harr2⟩ := h.out L0 w μ H w μ aa hs hv2 rfl (Evo.refl _ _ _) b ({ c₀ with mode := u' } :: cs) rfl
  subst hdf
  have hd0 : a'.defers = [] := hd'
  have hsteps : Steps C.P (lone (b.at a [.code (.seq (.region id #[⟨some t1, .call ⟨.builtin .recover, #[], at1⟩, ty1, p1, a1, none⟩, ⟨some t2, .assign (.tmp t1), ty2, p2, a2, none⟩] false) c2)]) (c₀ :: cs) w) (lone (b.at aa [.code c2]) ({ c₀ with mode := u' } :: cs) w) :=
    Steps.trans (.one step_seq) (Steps.trans (.one step_region) harr)
  rw [← henter] at hsteps
  have eAt : b.atR aa [.code c2] = b.at aa [.code c2] := Frame.atR_of_none rfl _ _
  rw [← eAt] at hsteps
  obtain ⟨rv, r1, _⟩ := results_ok s1 hv' (fn := fn) (ds := []) (by rw [hres]; exact .nil)
  have hmode : ModeR w' (forb L0 μ' H') μ' H' (recD m).2 u' := hu'.step (he'.step L0)
  cases x with
  | ret =>
    have hx2 : e = .ret := hx'
    subst hx2
    obtain ⟨k, hst⟩ := harr2
    exact ⟨.returned rv, u', w', { b.atR a' (.code .ret :: k) with mode := .returning }, ⟨rv, (recD m).2, H', μ', rfl, hR, s1, hmode, he'⟩, Steps.trans hsteps (Steps.trans hst (.one (stepR_ret rfl))), rfl, rfl, hd0, fn, hf, r1⟩
  | norm =>
    have hx2 : e = .normal := hx'
    subst hx2
    exact ⟨.returned rv, u', w', { b.atR a' [] with mode := .returning }, ⟨rv, (recD m).2, H', μ', rfl, hR, s1, hmode, he'⟩, Steps.trans hsteps (Steps.trans harr2 (.one (stepR_end rfl))), rfl, rfl, hd0, fn, hf, r1⟩
  | exit id => exact hR.elim
  | pan d => exact hR.elim
end Go.V
/- THE OPERATION defer. -/
namespace Go.V
open Go.RowKit
section
variable {C : Ctx} {Q : Post} {ops : Array Oper} {rest : List Oper} {k : List Item} {env env' : List D} {H : Heap} {df : List ADef}
variable {dst : Option Tmp} {ty : TypeId} {pos : String} {aft : Array Edge} {gd : Option (Nat × Bool)} {x : Operand}
theorem ZgH {f : FuncId} {args : List Operand} {ds : List D} {tys : Array TypeId} [hput : Put env dst (.tup []) env'] (hg : gOk ops.toList env gd = some true) (hx : evO C env x = some (.clos f [])) (ha : evOs C env args = some ds) (hk : AOps C Q ops rest k env' H (.fn f ds :: df)) (hrn : Q.rd = none := by rfl) :
    AOps C Q ops (⟨dst, .defer ⟨.value x, args.toArray, tys⟩, ty, pos, aft, gd⟩ :: rest) k env H df := by
  refine ⟨fun i hi => ⟨fun L0 w0 μ0 H0 w μ a hs hv hd he b cs hrd => ?_⟩⟩
  have ho : ops[i]? = some ⟨dst, .defer ⟨.value x, args.toArray, tys⟩, ty, pos, aft, gd⟩ := by have := drop_get hi; simpa using this
  have hw := gOk_ok (C := C) hv (o := ⟨dst, .defer ⟨.value x, args.toArray, tys⟩, ty, pos, aft, gd⟩) hg
  have ex := evO_ok hs hv hx
  have ea := evOs_ok hs hv ha
  simp only [VR, VRs] at ex
  obtain ⟨cvs, ex, rfl⟩ := ex
  let d : Deferred := { target := .fn (.func f) #[], args := (args.map a.eval).toArray }
  have hrun : (execOp a.eval ⟨dst, .defer ⟨.value x, args.toArray, tys⟩, ty, pos, aft, gd⟩).run C.P w = .ok (.defer d) w := by
    simp [execOp, resolve, ex, Deferred.ofValue, d]
  have hwp : Oper.wp C.P ⟨dst, .defer ⟨.value x, args.toArray, tys⟩, ty, pos, aft, gd⟩ a w (fun a' w' => a' = ({ a with defers := d :: a.defers } : Act).put dst undef ∧ w' = w) (fun _ _ _ => False) := by
    unfold Oper.wp
    rw [hrun]
    exact ⟨rfl, rfl⟩
  rw [List.length_cons, List.range'_succ]
  rcases op_step (rest := List.range' (i + 1) rest.length) ho hw hwp (by rintro ⟨_, _, h⟩; exact h) b (.inl (by rw [hrn] at hrd; exact hrd)) k cs with ⟨a', w', ⟨h1, h2⟩, hst⟩ | ⟨_, _, _, h, _⟩
  · subst h2
    have hv2 : VRs w' (forb L0 μ H) μ H env' a'.tmps.toList := by
      rw [h1, ← hput.eq]
      exact VRs_put (a := { a with defers := d :: a.defers }) hv (by simp only [VR]; exact ⟨[], rfl, by simp [VRs]⟩)
    have hd2 : DfR w' (forb L0 μ H) μ H (.fn f ds :: df) a'.defers := by
      rw [h1, put_defers]
      simp only [DfR]
      exact ⟨_, _, rfl, ea, hd⟩
    obtain ⟨e, a2, w2, h3, h4⟩ := (hk.out (i + 1) (drop_next hi)).out L0 w0 μ0 H0 w' μ a' hs hv2 hd2 he b cs hrd
    exact ⟨e, a2, w2, h3, .of_steps hst h4⟩
  exact h.elim
end
end Go.V
/- INTERFACES: comparison with nil; assertions of a concrete type. -/
namespace Go.V
open Go.RowKit
def isIf (P : Program) (t : TypeId) : Bool :=
  match P.underlying t with
  | some (.interface _) => true
  | _ => false
section
variable {P : Program} {t : TypeId}
theorem isIf_under (h : isIf P t = true) : ∃ ms, P.underlying t = some (.interface ms) := by
  unfold isIf at h
  cases hu : P.underlying t with
  | none => simp [hu] at h
  | some d => cases d <;> first | (simp [hu] at h; done) | exact ⟨_, rfl⟩
theorem run_ifEq (w : World) (h : isIf P t = true) (u : TypeId) (x : Value) : (binOp .eql t (.iface u x) .nilIface).run P w = .ok (.bool false) w := by
  obtain ⟨ms, hu⟩ := isIf_under h
  simp only [binOp]
  simp [Op.equal, Op.maxDepth]
  rw [Op.equalIn]
  simp [run_underlying hu]
theorem run_ifEqNil (w : World) (h : isIf P t = true) : (binOp .eql t .nilIface .nilIface).run P w = .ok (.bool true) w := by
  obtain ⟨ms, hu⟩ := isIf_under h
  simp only [binOp]
  simp [Op.equal, Op.maxDepth]
  rw [Op.equalIn]
  simp [run_underlying hu]
end
section
variable {C : Ctx} {env : List D} {H : Heap} {dst : Option Tmp} {ty : TypeId} {pos : String} {aft : Array Edge} {gd : Option (Nat × Bool)} {x : Operand} {T T' U xT : TypeId} {d : D} {te : TE}
theorem ZfL (ht : C.ty T = some te) (hc : conK te.k = true) (hx : evO C env x = some (.iface T d)) : OpQ C ⟨dst, .typeAssert x xT T true, ty, pos, aft, gd⟩ env H (.tup [d, .bool true]) :=
  OpQ.of_run fun L w μ a he => by
    have ex := he _ _ hx
    simp only [VR] at ex
    obtain ⟨u, ex, hu⟩ := ex
    refine ⟨.tuple #[u, .bool true], ?_, by simp only [VR, VRs]; exact ⟨[u, .bool true], rfl, _, _, rfl, hu, _, _, rfl, rfl, rfl⟩⟩
    have hun := (ty_tic ht).1.run_un w
    have hk := (C.ok T te ht).2
    have hne : ∀ ms, tkDesc C.P T ≠ .interface ms := by
      intro ms e
      have hu2 := (ty_tic ht).1.un
      rw [e] at hu2
      cases hkk : te.k <;> rw [hkk] at hk hc <;> simp only [TKok] at hk <;> first | (cases hc; done) | (rw [hu2] at hk; cases hk; done) | (obtain ⟨_, h1, _⟩ := hk; rw [hu2] at h1; cases h1; done) | (obtain ⟨_, h1⟩ := hk; rw [hu2] at h1; cases h1)
    simp only [execOp, ex, Instr.typeAssert, Sem.run_bind, hun, Result.andThen_ok]
    generalize tkDesc C.P T = dsc at hne
    cases dsc <;> first | (exact (hne _ rfl).elim) | simp
end
end Go.V
/- RANGES OVER FUNCTIONS: the statement; the call of yield; a round. -/
namespace Go.V
open Go.RowKit
def QRound (id : Nat) (K : Option Code → Heap → Prop) : Post := ⟨some id, fun x _ H df => df = [] ∧ match x with
  | .norm => K none H
  | .ret => K (some .ret) H
  | .exit i => K (some (.exit i)) H
  | .pan _ => False⟩
theorem run_getLoopB {P : Program} {w : World} {l : Nat} {r : Loop} (h : w.heap[l]? = some (.loop r)) : (Instr.getLoop l).run P w = .ok r w := by
  simp [Instr.getLoop, getObj, Sem.run, Sem.run_bind, h, Result.andThen]
theorem run_setObjB {P : Program} {w : World} {l : Nat} {r : Loop} (o : Obj) (h : w.heap[l]? = some (.loop r)) : (setObj l o).run P w = .ok () (putB w l o) := by simp [setObj, Sem.run, h, putB]
theorem run_beginRoundB {P : Program} {w : World} {l : Nat} {r : Loop} (h : w.heap[l]? = some (.loop r)) (hr : r.state = .ready) : (Instr.beginRound l).run P w = .ok () (putB w l (.loop { r with state := .busy })) := by
  simp [Instr.beginRound, Sem.run_bind, run_getLoopB h, run_setObjB _ h, Result.andThen, hr]
theorem run_endRoundB {P : Program} {w : World} {l : Nat} {r : Loop} (jump : Option Code) (h : w.heap[l]? = some (.loop r)) : (Instr.endRound l jump).run P w = .ok (.bool jump.isNone) (putB w l (.loop { r with state := if jump.isNone then .ready else .done, pending := jump })) := by
  simp [Instr.endRound, Sem.run_bind, run_getLoopB h, run_setObjB _ h, Result.andThen]
theorem run_endLoopB {P : Program} {w : World} {l : Nat} {r : Loop} (h : w.heap[l]? = some (.loop r)) (hb : r.state ≠ .busy) : (Instr.endLoop l).run P w = .ok r.pending (putB w l (.loop { r with state := .exhausted })) := by
  simp [Instr.endLoop, Sem.run_bind, run_getLoopB h, run_setObjB _ h, Result.andThen, hb]
theorem run_yieldB {P : Program} {w : World} {l : Nat} {r : Loop} {args : Array Value} (h : w.heap[l]? = some (.loop r)) (hs : args.size = r.params.size) :
    (Instr.yield l args).run P w = .ok (.round l r.fn ((r.params.zip args).foldl (fun tmps (t, a) => tmps.setIfInBounds t a) r.tmps) r.assign r.body) w := by
  simp [Instr.yield, Sem.run_bind, run_getLoopB h, Result.andThen, hs]
theorem run_enterLoopB {P : Program} (w : World) (fn : FuncId) (tmps : Array Value) (ps : Array Tmp) (assign body : Code) :
    (Instr.enterLoop fn tmps ps assign body none).run P w =
      .ok (w.heap.size + 1, [{ target := .collected w.heap.size, args := #[] }])
        ((w.alloc (.deferred (some []))).alloc (.loop { state := .ready, pending := none, fn, tmps, params := ps, assign, body, defers := w.heap.size })) := by
  unfold Instr.enterLoop
  simp only [Sem.run_bind, run_newObj_alloc, Result.andThen, Sem.run_pure, World.size_alloc]
abbrev loopO (st : LSt) (ps : Array Tmp) (asg bd : Code) (envL : List D) : Option AObj := some ⟨[], 0, 0, true, some (.loop st ps asg bd envL)⟩
abbrev defsO : Option AObj := some ⟨[], 0, 0, true, some .defs⟩
section
variable {C : Ctx} {Q : Post} {ops : Array Oper} {rest : List Oper} {k : List Item} {env : List D} {H : Heap} {df : List ADef} {id : Nat} {ps : Array Tmp} {asg bd : Code} {envL : List D}
theorem SR.loopSt {L0 : Nat → Prop} {w : World} {μ : List Nat} {st st' : LSt} {b : Nat} {r r' : Loop} (hs : SR C L0 w μ H) (ho : H[id]? = some (loopO st ps asg bd envL)) (hb : μ[id]? = some b) (hw : w.heap[b]? = some (.loop r)) (h1 : r'.params = r.params) (h2 : r'.assign = r.assign) (h3 : r'.body = r.body) (h4 : r'.tmps = r.tmps) (h5 : LStR st' r') :
    SR C L0 (putB w b (.loop r')) μ (H.set id (loopO st' ps asg bd envL)) ∧ Evo w (putB w b (.loop r')) μ μ H (H.set id (loopO st' ps asg bd envL)) := by
  obtain ⟨_, r0, k1, k2, k3, k4, k5, k6⟩ := (hs.obj id _ b ho hb).spec rfl
  rw [hw] at k1
  injection k1 with k1
  injection k1 with k1
  subst k1
  refine hs.putS (x' := loopO st' ps asg bd envL) ho hb rfl (by simp) fun o' e => ?_
  injection e with e
  subst e
  exact ⟨rfl, rfl, rfl, .of_spec rfl ⟨rfl, r', putB_same (hs.block_lt ho hb), h1.trans k2, h2.trans k3, h3.trans k4, by rw [h4]; exact k5, h5⟩⟩
theorem ARun.beginRound (hq : Q.rd = some id) (ho : H[id]? = some (loopO .ready ps asg bd envL)) (h : ARun C Q k env (H.set id (loopO .busy ps asg bd envL)) df) : ARun C Q (.beginRound :: k) env H df := by
  refine ⟨fun L0 w0 μ0 H0 w μ a hs hv hd he b cs hrd => ?_⟩
  have hrd' := hrd
  rw [hq] at hrd'
  obtain ⟨l, hl, hbr⟩ := hrd'
  obtain ⟨_, r, k1, k2, k3, k4, k5, k6, k7⟩ := (hs.obj id _ l ho hl).spec rfl
  have hst := stepR_beginRound (P := C.P) (b := b) (a := a) (k := k) (cs := cs) hbr (run_beginRoundB k1 k6)
  obtain ⟨s1, e1⟩ := hs.loopSt (st' := .busy) (r' := { r with state := .busy }) ho hl k1 rfl rfl rfl rfl ⟨rfl, k7⟩
  have st := e1.step L0
  obtain ⟨e, a', w', h3, h4⟩ := h.out L0 w0 μ0 H0 _ μ a s1 (VRs.step st hv) (DfR.step st hd) (he.trans e1) b cs hrd
  exact ⟨e, a', w', h3, .of_steps (.one hst) h4⟩
def setL (envL : List D) : List (Nat × D) → List D
  | [] => envL
  | (t, d) :: l => setL (envL.set t d) l
theorem VRs_setL {w : World} {L : Nat → Prop} {μ : List Nat} {H : Heap} : ∀ {ps : List Tmp} {ds : List D} {vs : List Value} {envL : List D} {tmps : Array Value}, VRs w L μ H ds vs → VRs w L μ H envL tmps.toList →
    VRs w L μ H (setL envL (ps.zip ds)) ((ps.zip vs).foldl (fun (t : Array Value) (p : Tmp × Value) => t.setIfInBounds p.1 p.2) tmps).toList
  | [], ds, vs, envL, tmps, _, h => by simpa [setL] using h
  | p :: ps, [], vs, envL, tmps, h1, h => by simp only [VRs] at h1; subst h1; simpa [setL] using h
  | p :: ps, d :: ds, vs, envL, tmps, h1, h => by
    simp only [VRs] at h1
    obtain ⟨v, us, rfl, h2, h3⟩ := h1
    simp only [List.zip_cons_cons, setL, List.foldl_cons]
    refine VRs_setL h3 ?_
    rw [Array.toList_setIfInBounds]
    exact VRs_set h2 h
variable {dst : Option Tmp} {ty : TypeId} {pos : String} {aft : Array Edge} {gd : Option (Nat × Bool)} {x : Operand}
theorem AOps.yield {ds envR : List D} {args : List Operand} {tys : Array TypeId} {ps : List Tmp} (K : Option Code → Heap → Prop) (hg : gOk ops.toList env gd = some true) (hx : evO C env x = some (.yld id)) (ha : evOs C env args = some ds) (ho : H[id]? = some (loopO .ready ps.toArray asg bd envL)) (hl : ds.length = ps.length) (hR : setL envL (ps.zip ds) = envR)
    (hb : ARun C (QRound id K) [.code asg, .beginRound, .code bd] envR H []) (hbusy : ∀ j H', K j H' → H'[id]? = some (loopO .busy ps.toArray asg bd envL))
    (hk : ∀ H', K none H' → AOps C Q ops rest k (envPut env dst (.bool true)) (H'.set id (loopO .ready ps.toArray asg bd envL)) df)
    (hst : ∀ c H', K (some c) H' → AOps C Q ops rest k (envPut env dst (.bool false)) (H'.set id (loopO (.done c) ps.toArray asg bd envL)) df) :
    AOps C Q ops (⟨dst, .call ⟨.value x, args.toArray, tys⟩, ty, pos, aft, gd⟩ :: rest) k env H df := by
  subst hR
  refine ⟨fun i hi => ⟨fun L0 w0 μ0 H0 w μ a hs hv hd he b cs hrd => ?_⟩⟩
  obtain ⟨o, hoo⟩ : ∃ o : Oper, o = ⟨dst, .call ⟨.value x, args.toArray, tys⟩, ty, pos, aft, gd⟩ := ⟨_, rfl⟩
  have hod : o.dst = dst := by rw [hoo]
  rw [← hoo] at hi ⊢
  have hop : ops[i]? = some o := by have := drop_get hi; simpa using this
  have hw := gOk_ok (C := C) hv (o := o) (by rw [hoo]; exact hg)
  have ex := evO_ok hs hv hx
  have ea := evOs_ok hs hv ha
  simp only [VR] at ex
  obtain ⟨l, hml, ex⟩ := ex
  obtain ⟨_, r, k1, k2, k3, k4, k5, k6, k7⟩ := (hs.obj id _ l ho hml).spec rfl
  have hal : (args.map a.eval).length = ps.length := by rw [VRs_length ea]; exact hl
  have hy := run_yieldB (P := C.P) (args := (args.map a.eval).toArray) k1 (by rw [k2]; simpa using hal)
  rw [k2, k3, k4] at hy
  have hz : (ps.toArray.zip (args.map a.eval).toArray).foldl (fun tmps (t, a) => tmps.setIfInBounds t a) r.tmps = (ps.zip (args.map a.eval)).foldl (fun (t : Array Value) (p : Tmp × Value) => t.setIfInBounds p.1 p.2) r.tmps := by
    simp [List.zip_toArray]
  rw [hz] at hy
  have hrun : (o.semAt b.roundOf a.eval).run C.P w = .ok (.round l r.fn ((ps.zip (args.map a.eval)).foldl (fun (t : Array Value) (p : Tmp × Value) => t.setIfInBounds p.1 p.2) r.tmps) asg bd) w := by
    rw [Oper.semAt_eq _ _ _ (by rw [hoo]; intro c h; cases h), hoo]
    have h1 : (args.toArray.map a.eval) = (args.map a.eval).toArray := by simp
    simp only [execOp, resolve, h1, ex, Deferred.ofValue, Sem.run_bind, Sem.run_pure, Result.andThen_ok, invoke]
    have h2 : (#[] ++ (args.map a.eval).toArray : Array Value) = (args.map a.eval).toArray := by simp
    rw [h2]
    exact hy
  rw [List.length_cons, List.range'_succ]
  have hgop := stepGR_op (P := C.P) (b := b) (k := k) (cs := cs) (w := w) (rest := List.range' (i + 1) rest.length) hop hw
  let b2 : Frame := { (default : Frame) with fn := r.fn, kind := .normal, roundOf := some l }
  let a2 : Act := { tmps := (ps.zip (args.map a.eval)).foldl (fun (t : Array Value) (p : Tmp × Value) => t.setIfInBounds p.1 p.2) r.tmps, defers := [] }
  have henter : step C.P (lone (b.atR a (.inRegion ops (i :: List.range' (i + 1) rest.length) :: k)) cs w) =
      .next (lone (b2.atR a2 [.code asg, .beginRound, .code bd]) (b.atR a (.inRegion ops (i :: List.range' (i + 1) rest.length) :: k) :: cs) w) :=
    step_lone_go (by rw [hgop]; simp [stepG.apply, hrun, Frame.atR, Frame.round, b2, a2])
  obtain ⟨e, a', w', ⟨xx, env', H', μ', df', ⟨hdf, hK⟩, s1, hv1, hd1, hx1, e1⟩, harr⟩ := hb.out L0 w μ H w μ a2 hs (VRs_setL ea k5) rfl (Evo.refl _ _ _) b2 (b.atR a (.inRegion ops (i :: List.range' (i + 1) rest.length) :: k) :: cs) ⟨l, hml, rfl⟩
  have hml' := e1.map _ _ hml
  have fin : ∀ (jump : Option Code) (st' : LSt), K jump H' → (∀ r' : Loop, LStR .busy r' → LStR st' { r' with state := if jump.isNone then .ready else .done, pending := jump }) →
      AOps C Q ops rest k (envPut env dst (.bool jump.isNone)) (H'.set id (loopO st' ps.toArray asg bd envL)) df →
      ∃ w2, (Instr.endRound l jump).run C.P w' = .ok (.bool jump.isNone) w2 ∧ ∃ e a' w'', QRel C L0 w0 μ0 H0 Q e a' w'' ∧ ArrR C.P (lone ((b.atR a (.inRegion ops (i :: List.range' (i + 1) rest.length) :: k)).finish (.bool jump.isNone)) cs w2) b cs e a' w'' := by
    intro jump st' hj hst' hrest
    have hbz := hbusy _ _ hj
    obtain ⟨_, r', q1, q2, q3, q4, q5, q6⟩ := (s1.obj id _ l hbz hml').spec rfl
    obtain ⟨s2, e2⟩ := s1.loopSt (st' := st') (r' := { r' with state := if jump.isNone then .ready else .done, pending := jump }) hbz hml' q1 rfl rfl rfl rfl (hst' r' q6)
    refine ⟨_, run_endRoundB jump q1, ?_⟩
    have e12 := e1.trans e2
    have st := e12.step L0
    rw [Frame.finish_atR, hop, Option.bind_some, hod]
    obtain ⟨e, a', w', h3, h4⟩ := (hrest.out (i + 1) (drop_next hi)).out L0 w0 μ0 H0 _ μ' (a.put dst (.bool jump.isNone)) s2 (VRs_put (VRs.step st hv) (by simp only [VR])) (by rw [put_defers]; exact DfR.step st hd) (he.trans e12) b cs (hrd.step e12.map)
    exact ⟨e, a', w', h3, h4⟩
  cases xx with
  | norm =>
    have hx2 : e = .normal := hx1
    subst hx2
    obtain ⟨w2, r1, e2, a3, w3, h3, h4⟩ := fin none .ready hK (fun r' h => ⟨rfl, rfl⟩) (hk H' hK)
    exact ⟨e2, a3, w3, h3, .of_steps (.head henter (Steps.trans harr (.one (stepR_round_end rfl rfl r1)))) h4⟩
  | ret =>
    have hx2 : e = .ret := hx1
    subst hx2
    obtain ⟨kk, hst2⟩ := harr
    obtain ⟨w2, r1, e2, a3, w3, h3, h4⟩ := fin (some .ret) (.done .ret) hK (fun r' h => ⟨rfl, rfl⟩) (hst _ H' hK)
    exact ⟨e2, a3, w3, h3, .of_steps (.head henter (Steps.trans hst2 (.one (stepR_round_ret rfl rfl r1)))) h4⟩
  | exit j =>
    have hx2 : e = .exit j := hx1
    subst hx2
    obtain ⟨kk, hkk, hst2⟩ := harr
    obtain ⟨w2, r1, e2, a3, w3, h3, h4⟩ := fin (some (.exit j)) (.done (.exit j)) hK (fun r' h => ⟨rfl, rfl⟩) (hst _ H' hK)
    exact ⟨e2, a3, w3, h3, .of_steps (.head henter (Steps.trans hst2 (.one (stepR_round_exit rfl rfl hkk r1)))) h4⟩
  | pan d => exact hK.elim
theorem step_rangeF {P : Program} {b : Frame} {a : Act} {k : List Item} {cs : List Frame} {w : World} {g : Operand} {ps : Array Tmp} {assign body : Code} {l : Nat} {mark : List Deferred} {w₁ w₂ : World} {f : FuncId} {lb args : Array Value}
    (he : (Instr.enterLoop b.fn a.tmps ps assign body b.roundOf).run P w = .ok (l, mark) w₁) (hg : a.eval g = .func (.func f) #[] lb) (hf : (callFunc f (#[.func (.yield l) #[] #[]] ++ lb)).run P w₁ = .ok (.enter f args) w₂) :
    step P (lone (b.atR a (.code (.rangeFunc g ps assign body) :: k)) cs w) =
      .next (lone (Frame.enter P f args .normal) (b.atR { a with defers := mark ++ a.defers } (.inRangeFunc l :: k) :: cs) w₂) :=
  step_lone_go (by
    have hev := Frame.eval_atR b { a with defers := mark ++ a.defers } (.inRangeFunc l :: k)
    simp only [Frame.atR] at hev
    have hg' : ({ tmps := a.tmps, defers := mark ++ a.defers } : Act).eval g = .func (.func f) #[] lb := by rw [← hg]; cases g <;> rfl
    have hc : ∀ w, Sem.run P (resolve ({ tmps := a.tmps, defers := mark ++ a.defers } : Act).eval { callee := .value g, args := #[.const (.func (.yield l) #[] #[])], argTypes := #[] } 0) w = .ok { target := .fn (.func f) lb, args := #[.func (.yield l) #[] #[]] } w := by
      intro w
      simp only [resolve, hg']
      simp [Deferred.ofValue, Act.eval]
    have hi : (invoke (.fn (.func f) lb) #[.func (.yield l) #[] #[]]).run P w₁ = .ok (.enter f args) w₂ := by simpa [invoke] using hf
    simp [stepG, stepG.exec, Frame.atR, Sem.runT_eq, he, GStep.bare_after, stepG.apply, hev, Sem.run_bind, hc, hi, Result.andThen])
theorem step_endRangeF {P : Program} {b : Frame} {a : Act} {k : List Item} {cs : List Frame} {w w' : World} {l : Nat} {jump : Option Code} (h : (Instr.endLoop l).run P w = .ok jump w') :
    step P (lone (b.atR a (.endRangeFunc l :: k)) cs w) = .next (lone (b.atR a ((jump.map Item.code).toList ++ k)) cs w') :=
  step_lone_go (by simp [stepG, stepG.exec, Frame.atR, Sem.runT_eq, h, GStep.bare_after])
theorem ARun.rangeFn {g : Operand} {gf : FuncId} {caps : List D} {n : Nat} {R : Out → Heap → Prop} (hrn : Q.rd = none) (hx : evO C env g = some (.clos gf caps)) (hn : H.length = n)
    (hc : HC C gf (H ++ [defsO] ++ [loopO .ready ps asg bd env]) (.yld (n + 1) :: caps) R)
    (hk : ∀ d H2, R (.ret d) H2 → ∃ st, H2[n + 1]? = some (loopO st ps asg bd env) ∧ match st with
      | .ready => ARun C Q k env (H2.set (n + 1) none) (.col n :: df)
      | .done c => ARun C Q (.code c :: k) env (H2.set (n + 1) none) (.col n :: df)
      | .busy => False)
    (hp : ∀ d H2, R (.pan d) H2 → Q (.pan d) env H2 (.col n :: df)) : ARun C Q (.code (.rangeFunc g ps asg bd) :: k) env H df := by
  subst hn
  refine ⟨fun L0 w0 μ0 H0 w μ a hs hv hd he b cs hrd => ?_⟩
  have hro : b.roundOf = none := by rw [hrn] at hrd; exact hrd
  have ex := evO_ok hs hv hx
  simp only [VR] at ex
  obtain ⟨cvs, ex, ec⟩ := ex
  obtain ⟨s1, e1⟩ := hs.pushO (ob := .deferred (some [])) (o := ⟨[], 0, 0, true, some .defs⟩) (.of_spec rfl ⟨rfl, heap_alloc_new w _⟩)
  have st1 := e1.step L0
  have hlen1 : (μ ++ [w.heap.size]).length = H.length + 1 := by simp [hs.len]
  obtain ⟨rec, hrec⟩ : ∃ rec : Loop, rec = { state := .ready, pending := none, fn := b.fn, tmps := a.tmps, params := ps, assign := asg, body := bd, defers := w.heap.size } := ⟨_, rfl⟩
  obtain ⟨s2, e2⟩ := s1.pushO (ob := .loop rec) (o := ⟨[], 0, 0, true, some (.loop .ready ps asg bd env)⟩) (.of_spec rfl ⟨rfl, rec, heap_alloc_new _ _, by rw [hrec], by rw [hrec], by rw [hrec], by rw [hrec]; exact VRs.step st1 hv, by rw [hrec]; exact ⟨rfl, rfl⟩⟩)
  have e12 := e1.trans e2
  have st2 := e12.step L0
  have hsz : (w.alloc (.deferred (some []))).heap.size = w.heap.size + 1 := by simp
  rw [hsz] at s2 e2 e12 st2
  have hml : (μ ++ [w.heap.size] ++ [w.heap.size + 1])[H.length + 1]? = some (w.heap.size + 1) := by
    rw [List.getElem?_append_right (by rw [hlen1]; exact Nat.le_refl _), hlen1]; simp
  have hmc : (μ ++ [w.heap.size] ++ [w.heap.size + 1])[H.length]? = some w.heap.size := by
    rw [List.getElem?_append_left (by rw [hlen1]; omega), ← hs.len]; simp
  have hargs := VRs.step st2 ec
  have hyl : VR ((w.alloc (.deferred (some []))).alloc (.loop rec)) (forb L0 (μ ++ [w.heap.size] ++ [w.heap.size + 1]) (H ++ [defsO] ++ [loopO .ready ps asg bd env])) (μ ++ [w.heap.size] ++ [w.heap.size + 1]) (H ++ [defsO] ++ [loopO .ready ps asg bd env]) (.yld (H.length + 1)) (.func (.yield (w.heap.size + 1)) #[] #[]) := by
    simp only [VR]
    exact ⟨_, hml, rfl⟩
  have hcall := hc.2 L0 _ _ (.func (.yield (w.heap.size + 1)) #[] #[] :: cvs) s2 (by simp only [VRs]; exact ⟨_, _, rfl, hyl, hargs⟩)
  have henter := step_rangeF (P := C.P) (b := b) (a := a) (k := k) (cs := cs) (w := w) (g := g) (ps := ps) (assign := asg) (body := bd) (by rw [hro]; exact run_enterLoopB w b.fn a.tmps ps asg bd) ex (hc.1 _ _)
  rw [← hrec] at henter
  have harr : (#[.func (.yield (w.heap.size + 1)) #[] #[]] ++ cvs.toArray : Array Value) = (.func (.yield (w.heap.size + 1)) #[] #[] :: cvs).toArray := by simp
  rw [harr] at henter
  let a2 : Act := { a with defers := [{ target := .collected w.heap.size, args := #[] }] ++ a.defers }
  obtain ⟨e, w', fr, ⟨o, H2, μ2, hR, s3, hO, e3⟩, hcomes, hfn, hleave⟩ := hcall (b.atR a2 (.inRangeFunc (w.heap.size + 1) :: k) :: cs)
  have st3 := e3.step L0
  have e13 := e12.trans e3
  have hd2 : DfR w' (forb L0 μ2 H2) μ2 H2 (.col H.length :: df) a2.defers := by
    simp only [DfR]
    exact ⟨w.heap.size, a.defers, rfl, e3.map _ _ hmc, DfR.step (e13.step L0) hd⟩
  cases o with
  | ret d =>
    obtain ⟨v, rfl, hvd⟩ := hO
    obtain ⟨st, hst, hcont⟩ := hk d H2 hR
    have hback := step_leave_returned (c := b.atR a2 (.inRangeFunc (w.heap.size + 1) :: k)) (cs := cs) hleave
    have hfin : (b.atR a2 (.inRangeFunc (w.heap.size + 1) :: k)).finish v = b.atR a2 (.endRangeFunc (w.heap.size + 1) :: k) := by
      simp [Frame.finish, Frame.atR]
    rw [hfin] at hback
    have hml2 := e3.map _ _ hml
    obtain ⟨_, r, q1, q2, q3, q4, q5, q6⟩ := (s3.obj _ _ _ hst hml2).spec rfl
    have go : ∀ (jump : Option Code), r.pending = jump → r.state ≠ .busy → ARun C Q ((jump.map Item.code).toList ++ k) env (H2.set (H.length + 1) none) (.col H.length :: df) →
        ∃ e a' w', QRel C L0 w0 μ0 H0 Q e a' w' ∧ ArrR C.P (lone (b.atR a (.code (.rangeFunc g ps asg bd) :: k)) cs w) b cs e a' w' := by
      intro jump hj hnb hrun
      have hend : (Instr.endLoop (w.heap.size + 1)).run C.P w' = .ok jump (putB w' (w.heap.size + 1) (.loop { r with state := .exhausted })) := by rw [run_endLoopB q1 hnb, hj]
      obtain ⟨s4, e4⟩ := s3.putS (x' := none) (ob := .loop { r with state := .exhausted }) hst hml2 rfl (by simp) (fun o' h => by cases h)
      have e14 := e13.trans e4
      obtain ⟨e, a', w'', h3, h4⟩ := hrun.out L0 w0 μ0 H0 _ μ2 a2 s4 (VRs.step (e14.step L0) hv) (DfR.step (e4.step L0) hd2) (he.trans e14) b cs (hrd.step e14.map)
      exact ⟨e, a', w'', h3, .of_steps (.head henter (Steps.trans hcomes (.head hback (.one (step_endRangeF hend))))) h4⟩
    cases st with
    | ready => exact go none q6.2 (by rw [q6.1]; simp) hcont
    | done c => exact go (some c) q6.2 (by rw [q6.1]; simp) hcont
    | busy => exact hcont.elim
  | pan d =>
    obtain ⟨v, rfl, hvd⟩ := hO
    have hback := step_leave_panicked (c := b.atR a2 (.inRangeFunc (w.heap.size + 1) :: k)) (cs := cs) hleave
    rw [Frame.raise_atR] at hback
    exact ⟨.panic (pan1 v), a2, w', ⟨.pan d, env, H2, μ2, _, hp d H2 hR, s3, VRs.step (e13.step L0) hv, hd2, ⟨v, rfl, hvd⟩, he.trans e13⟩, _, .head henter (Steps.trans hcomes (.one hback))⟩
end
end Go.V
/- MAPS with numbers as keys that a call itself makes. -/
namespace Go.V
open Go.RowKit
abbrev mapO (es : List (D × D)) : Option AObj := some ⟨[], 0, 0, true, some (.map es)⟩
def findI (k : IntKind) (n : Int) : List (D × D) → Option (Option D)
  | [] => some none
  | (.int k' m, v) :: es => bif decide (k = k') then (bif n == m then some (some v) else findI k n es) else none
  | _ :: _ => none
theorem findNow_ok {w : World} {L : Nat → Prop} {μ : List Nat} {H : Heap} {k : IntKind} {n : Int} : ∀ {es : List (D × D)} {r : Option D} {l : List MapEntry} (i : Nat), findI k n es = some r → VRs w L μ H (es.map (·.1)) (l.map (·.key)) → VRs w L μ H (es.map (·.2)) (l.map (·.val)) →
    match r with
    | none => Instr.findNow (.int k) (.int k n) l i = some none
    | some d => ∃ j v, Instr.findNow (.int k) (.int k n) l i = some (some (j, v)) ∧ VR w L μ H d v
  | [], r, l, i, h, h1, _ => by
    simp only [findI] at h
    injection h with h
    subst h
    simp only [List.map_nil, VRs] at h1
    have : l = [] := List.map_eq_nil_iff.1 h1
    subst this
    rfl
  | (d, v) :: es, r, [], i, h, h1, _ => by simp [VRs] at h1
  | (d, v) :: es, r, e :: l, i, h, h1, h2 => by
    simp only [List.map_cons, VRs] at h1 h2
    obtain ⟨v1, us1, e1, k1, k2⟩ := h1
    obtain ⟨v2, us2, e2, m1, m2⟩ := h2
    injection e1 with e1 e1'
    injection e2 with e2 e2'
    subst e1; subst e2; subst e1'; subst e2'
    cases d <;> simp only [findI] at h <;> try (cases h; done)
    rename_i k' m
    simp only [VR] at k1
    by_cases hk : k = k'
    · subst hk
      simp only [decide_true, cond_true] at h
      by_cases hn : n = m
      · subst hn
        simp only [beq_self_eq_true, cond_true] at h
        injection h with h
        subst h
        refine ⟨i, e.val, ?_, m1⟩
        simp [Instr.findNow, Instr.sameNow, k1]
      have hb : (n == m) = false := by simpa using hn
      rw [hb] at h
      simp only [cond_false] at h
      have := findNow_ok (i + 1) h k2 m2
      have hs : Instr.findNow (.int k) (.int k n) (e :: l) i = Instr.findNow (.int k) (.int k n) l (i + 1) := by
        simp [Instr.findNow, Instr.sameNow, k1, hb]
      rw [hs]
      exact this
    simp [hk] at h
def keyNs (k : IntKind) : List D → Option (List Int)
  | [] => some []
  | .int k' m :: ds => if k' = k then (keyNs k ds).map (m :: ·) else none
  | _ :: _ => none
def keysI (k : IntKind) (ks : List D) : Bool := match keyNs k ks with
  | some ns => decide ns.Nodup
  | none => false
theorem keyNs_ok {w : World} {L : Nat → Prop} {μ : List Nat} {H : Heap} {k : IntKind} : ∀ {ks : List D} {ns : List Int} {vs : List Value}, keyNs k ks = some ns → VRs w L μ H ks vs → vs = ns.map (Value.int k)
  | [], ns, vs, h, hv => by simp only [keyNs] at h; injection h with h; subst h; simp only [VRs] at hv; rw [hv]; rfl
  | d :: ds, ns, vs, h, hv => by
    cases d <;> simp only [keyNs] at h <;> try (cases h; done)
    split at h
    · rename_i e; subst e
      rw [Option.map_eq_some_iff] at h
      obtain ⟨ns', h1, rfl⟩ := h
      simp only [VRs, VR] at hv
      obtain ⟨v, us, rfl, rfl, h3⟩ := hv
      rw [keyNs_ok h1 h3]; rfl
    cases h
theorem findNow_mem {k : IntKind} {n : Int} : ∀ (l : List MapEntry) (i : Nat), (∀ e ∈ l, ∃ m, e.key = .int k m) → (∃ e ∈ l, e.key = .int k n) → ∃ j e, e ∈ l ∧ e.key = .int k n ∧ Instr.findNow (.int k) (.int k n) l i = some (some (j, e.val))
  | [], i, _, h => by obtain ⟨e, h, _⟩ := h; cases h
  | e :: l, i, ha, h => by
    obtain ⟨m, hm⟩ := ha e (by simp)
    by_cases hn : n = m
    · subst hn
      exact ⟨i, e, by simp, hm, by simp [Instr.findNow, Instr.sameNow, hm]⟩
    have hb : (n == m) = false := by simpa using hn
    have h' : ∃ e ∈ l, e.key = .int k n := by
      obtain ⟨e', h1, h2⟩ := h
      rcases List.mem_cons.1 h1 with rfl | h1
      · rw [hm] at h2; injection h2 with _ h2; exact absurd h2.symm hn
      exact ⟨e', h1, h2⟩
    obtain ⟨j, e', h1, h2, h3⟩ := findNow_mem l (i + 1) (fun e h => ha e (List.mem_cons_of_mem _ h)) h'
    exact ⟨j, e', List.mem_cons_of_mem _ h1, h2, by rw [← h3]; simp [Instr.findNow, Instr.sameNow, hm, hb]⟩
theorem findNow_no {k : IntKind} {n : Int} : ∀ (l : List MapEntry) (i : Nat), (∀ e ∈ l, ∃ m, e.key = .int k m ∧ m ≠ n) → Instr.findNow (.int k) (.int k n) l i = some none
  | [], i, _ => rfl
  | e :: l, i, ha => by
    obtain ⟨m, hm, hne⟩ := ha e (by simp)
    have hb : (n == m) = false := by simpa using fun h => hne h.symm
    rw [← findNow_no l (i + 1) (fun e h => ha e (List.mem_cons_of_mem _ h))]
    simp [Instr.findNow, Instr.sameNow, hm, hb]
theorem getElem_inj2 {α : Type} : ∀ {l : List α} {i j : Nat} {hi : i < l.length} {hj : j < l.length}, l.Nodup → l[i] = l[j] → i = j
  | a :: l, 0, 0, _, _, _, _ => rfl
  | a :: l, 0, j + 1, _, hj, hn, e => by
    rw [List.nodup_cons] at hn
    exact absurd (show a ∈ l by rw [show a = l[j]'(by simpa using hj) from e]; exact List.getElem_mem _) hn.1
  | a :: l, i + 1, 0, hi, _, hn, e => by
    rw [List.nodup_cons] at hn
    exact absurd (show a ∈ l by rw [show a = l[i]'(by simpa using hi) from e.symm]; exact List.getElem_mem _) hn.1
  | a :: l, i + 1, j + 1, hi, hj, hn, e => by
    rw [List.nodup_cons] at hn
    rw [getElem_inj2 (l := l) (hi := by simpa using hi) (hj := by simpa using hj) hn.2 e]
theorem findNow_perm {w : World} {L : Nat → Prop} {μ : List Nat} {H : Heap} {k : IntKind} {n : Int} {ks us : List D} {r : Option D} {l m : List MapEntry} (hl : ks.length = us.length) (hf : findI k n (ks.zip us) = some r) (h1 : VRs w L μ H ks (l.map (·.key))) (h2 : VRs w L μ H us (l.map (·.val))) (hp : l.Perm m) (hd : keysI k ks = true) :
    match r with
    | none => Instr.findNow (.int k) (.int k n) m 0 = some none
    | some d => ∃ j v, Instr.findNow (.int k) (.int k n) m 0 = some (some (j, v)) ∧ VR w L μ H d v := by
  unfold keysI at hd
  split at hd
  · rename_i ns hns
    have hk := keyNs_ok hns h1
    have hnd := of_decide_eq_true hd
    have hint : ∀ e ∈ l, ∃ q, e.key = .int k q := fun e he => by
      have : e.key ∈ l.map (·.key) := List.mem_map_of_mem he
      rw [hk, List.mem_map] at this
      obtain ⟨q, _, hq⟩ := this
      exact ⟨q, hq.symm⟩
    have hfn := findNow_ok 0 hf (by rw [List.map_fst_zip (by omega)]; exact h1) (by rw [List.map_snd_zip (by omega)]; exact h2)
    cases r with
    | none =>
      simp only at hfn ⊢
      apply findNow_no
      intro e he
      have he := hp.mem_iff.2 he
      obtain ⟨q, hq⟩ := hint e he
      refine ⟨q, hq, fun hqn => ?_⟩
      subst hqn
      obtain ⟨j, e', _, _, h⟩ := findNow_mem l 0 hint ⟨e, he, hq⟩
      rw [hfn] at h; cases h
    | some d =>
      simp only at hfn ⊢
      obtain ⟨j, v, hfn, hv⟩ := hfn
      have hex : ∃ e ∈ l, e.key = .int k n := Classical.byContradiction fun hno => by
        have := findNow_no (k := k) (n := n) l 0 (fun e he => by
          obtain ⟨q, hq⟩ := hint e he
          exact ⟨q, hq, fun hqn => hno ⟨e, he, by rw [hq, hqn]⟩⟩)
        rw [hfn] at this; cases this
      obtain ⟨j1, e1, a1, a2, a3⟩ := findNow_mem l 0 hint hex
      rw [hfn] at a3
      injection a3 with a3; injection a3 with a3; injection a3 with a3 a4
      obtain ⟨j2, e2, b1, b2, b3⟩ := findNow_mem (k := k) (n := n) m 0 (fun e he => hint e (hp.mem_iff.2 he)) (by obtain ⟨e, he, hq⟩ := hex; exact ⟨e, hp.mem_iff.1 he, hq⟩)
      have b1 := hp.mem_iff.2 b1
      have hee : e1 = e2 := by
        obtain ⟨x, hx, ex⟩ := List.getElem_of_mem a1
        obtain ⟨y, hy, ey⟩ := List.getElem_of_mem b1
        have hlen : l.length = ns.length := by have := congrArg List.length hk; simpa using this
        have gx : ns[x]'(by omega) = n := by
          have : (l.map (·.key))[x]'(by simpa using hx) = (ns.map (Value.int k))[x]'(by simp; omega) := by simp only [hk]
          simp only [List.getElem_map] at this
          rw [ex, a2] at this; injection this with _ this; exact this.symm
        have gy : ns[y]'(by omega) = n := by
          have : (l.map (·.key))[y]'(by simpa using hy) = (ns.map (Value.int k))[y]'(by simp; omega) := by simp only [hk]
          simp only [List.getElem_map] at this
          rw [ey, b2] at this; injection this with _ this; exact this.symm
        have hxy : x = y := getElem_inj2 hnd (gx.trans gy.symm)
        subst hxy
        exact ex.symm.trans ey
      subst hee
      exact ⟨j2, e1.val, b3, by rw [← a4]; exact hv⟩
  cases hd
section
variable {C : Ctx} {env : List D} {H H' : Heap} {dst : Option Tmp} {ty : TypeId} {pos : String} {aft : Array Edge} {gd : Option (Nat × Bool)} {x y z : Operand} {d : D} {T kt et : TypeId} {te : TE}
theorem Zf0 {i : Nat} {r : Option Operand} (hm : C.P.underlying T = some (.map kt et)) (hr : r = none ∨ ∃ k n, r = some (.const (.int k n))) [ap : AppL H (mapO []) i H'] : OpN C ⟨dst, .makeMap T r, ty, pos, aft, gd⟩ env H (.mapp i) H' := by
  rw [← ap.len, ← ap.eq]
  refine ⟨fun L0 w μ a hs hv => ?_⟩
  have hrun : (execOp a.eval ⟨dst, .makeMap T r, ty, pos, aft, gd⟩).run C.P w = .ok (.value (.map (some w.heap.size))) (w.alloc (.map #[] 0)) := by
    rcases hr with rfl | ⟨k, n, rfl⟩
    · simp only [execOp, Option.map_none, Instr.makeMap, Sem.run_bind, run_newObj_alloc, Result.andThen_ok, Sem.run_pure]
    simp only [execOp, Option.map_some, Act.eval, Instr.makeMap, Sem.run_bind, run_underlying hm, Result.andThen_ok, asInt, asIntOf, Sem.run_pure, run_newObj_alloc]
  unfold Oper.wp
  rw [hrun]
  obtain ⟨s1, e1⟩ := hs.pushO (ob := .map #[] 0) (o := ⟨[], 0, 0, true, some (.map [])⟩) (.of_spec rfl ⟨rfl, #[], 0, heap_alloc_new w _, by simp [VRs], by simp [VRs]⟩)
  refine ⟨_, .mapp H.length, _, _, ⟨rfl, rfl⟩, rfl, s1, ?_, e1⟩
  simp only [VR]
  exact ⟨w.heap.size, by rw [← hs.len]; simp, rfl⟩
theorem run_checkKey_int {P : Program} {w : World} {kt : TypeId} {k : IntKind} {n : Int} {b : Bool} (hk : P.underlying kt = some (.int k)) : (Instr.checkKey b 10000 kt (.int k n)).run P w = .ok () w := by
  rw [show (10000 : Nat) = 9999 + 1 from rfl]
  unfold Instr.checkKey
  simp only [Sem.run_bind, run_underlying hk, Result.andThen_ok]
  rfl
theorem run_findKeyV {P : Program} {w : World} {kt : TypeId} {d : TypeDesc} {k : Value} {l : List MapEntry} {a : Option (Nat × Value)} (hd : P.underlying kt = some d) (h : Instr.findNow d k l 0 = some a) : (Instr.findKey kt k l).run P w = .ok a w := by
  simp [Instr.findKey, run_underlying hd, Result.andThen, h]
theorem Zfq {i : Nat} {k : IntKind} {n : Int} {es : List (D × D)} {op : Op} (hop : op = .insert T x y z ∨ op = .mapUpdate T x y z) (hm : C.P.underlying T = some (.map kt et)) (hk : C.P.underlying kt = some (.int k)) (hx : evO C env x = some (.mapp i)) (hy : evO C env y = some (.int k n)) (hz : evO C env z = some d) (ho : H[i]? = some (mapO es)) (hf : findI k n es = some none)
    [pl : PutL H i (mapO (es ++ [(.int k n, d)])) H'] : OpN C ⟨dst, op, ty, pos, aft, gd⟩ env H (.tup []) H' := by
  rw [← pl.eq]
  refine ⟨fun L0 w μ a hs hv => ?_⟩
  have ex := evO_ok hs hv hx
  have ey := evO_ok hs hv hy
  have ez := evO_ok hs hv hz
  simp only [VR] at ex ey
  obtain ⟨b, hb, ex⟩ := ex
  obtain ⟨_, ea, clock, k1, k2, k3⟩ := (hs.obj i _ b ho hb).spec rfl
  have hfn := findNow_ok 0 hf k2 k3
  simp only at hfn
  have hrun : (execOp a.eval ⟨dst, op, ty, pos, aft, gd⟩).run C.P w = .ok .skip (putB w b (.map (ea.push { key := .int k n, val := a.eval z, born := clock }) (clock + 1))) := by
    have hmu : (Instr.mapUpdate T (.map (some b)) (.int k n) (a.eval z)).run C.P w = .ok () (putB w b (.map (ea.push { key := .int k n, val := a.eval z, born := clock }) (clock + 1))) := by
      have hg : (getObj b).run C.P w = .ok (.map ea clock) w := by simp [getObj, Sem.run, k1]
      have hset : ∀ o, (setObj b o).run C.P w = .ok () (putB w b o) := by intro o; simp [setObj, Sem.run, k1, putB]
      simp only [Instr.mapUpdate, Sem.run_bind, run_underlying hm, Result.andThen_ok, hg, run_checkKey_int hk, run_findKeyV hk hfn, hset]
    rcases hop with rfl | rfl <;> simp only [execOp, ex, ey, Sem.run_bind, hmu, Result.andThen_ok, Sem.run_pure]
  unfold Oper.wp
  rw [hrun]
  obtain ⟨s1, e1⟩ := hs.putS (x' := mapO (es ++ [(.int k n, d)])) (ob := .map (ea.push { key := .int k n, val := a.eval z, born := clock }) (clock + 1)) ho hb rfl (by simp) fun o' e => by
    injection e with e
    subst e
    refine ⟨rfl, rfl, rfl, .of_spec rfl ⟨rfl, _, _, putB_same (hs.block_lt ho hb), ?_, ?_⟩⟩
    · simp only [List.map_append, List.map_cons, List.map_nil, Array.toList_push]
      exact VRs_append k2 (by simp only [VRs]; exact ⟨_, _, rfl, by simp only [VR], rfl⟩)
    simp only [List.map_append, List.map_cons, List.map_nil, Array.toList_push]
    exact VRs_append k3 (by simp only [VRs]; exact ⟨_, _, rfl, ez, rfl⟩)
  exact ⟨undef, .tup [], _, μ, ⟨rfl, rfl⟩, rfl, s1, by simp only [VR]; exact ⟨[], rfl, by simp [VRs]⟩, e1⟩
end
end Go.V
/- STRINGS: slices of them; bytes as a string. -/
namespace Go.V
open Go.RowKit
section
variable {C : Ctx} {env : List D} {H H' : Heap} {dst : Option Tmp} {ty : TypeId} {pos : String} {aft : Array Edge} {gd : Option (Nat × Bool)} {x y z : Operand} {d : D} {T e : TypeId} {te : TE}
theorem ZfM {s : ByteArray} {lo hi : Nat} {ol oh : Option Operand} (ht : UN C T .string) (hx : evO C env x = some (.str s)) (hlo : bndO C env 0 ol = some lo) (hhi : bndO C env s.size oh = some hi) (hl : lo ≤ hi) (hh : hi ≤ s.size) :
    OpQ C ⟨dst, .slice T x ol oh none, ty, pos, aft, gd⟩ env H (.str (s.extract lo hi)) :=
  OpQ.of_run fun L w μ a he => by
    have ex := he _ _ hx
    simp only [VR] at ex
    refine ⟨_, ?_, by simp only [VR]; rfl⟩
    have key : (Instr.sliceAt T (.string s) (ol.map a.eval) (oh.map a.eval) none).run C.P w = .ok (.string (s.extract lo hi)) w := by
      rw [run_sliceAt_string _ _ _ _ _ _ ht]
      cases ol with
      | none =>
        simp only [bndO] at hlo
        injection hlo with hlo
        subst hlo
        cases oh with
        | none =>
          simp only [bndO] at hhi
          injection hhi with hhi
          subst hhi
          simp only [Option.map_none]
          exact Go.run_slice_string_all _ _ _ ht
        | some q =>
          simp only [bndO] at hhi
          split at hhi
          · rename_i ik i hq
            split at hhi
            · rename_i h0
              injection hhi with hhi
              have eq := he _ _ hq
              simp only [VR] at eq
              simp only [Option.map_none, Option.map_some, eq]
              rw [run_slice_string_h _ _ _ ht ik i h0 (by omega), hhi]
            cases hhi
          cases hhi
      | some p =>
        simp only [bndO] at hlo
        split at hlo
        · rename_i ik i hp
          split at hlo
          · rename_i h0
            injection hlo with hlo
            have ep := he _ _ hp
            simp only [VR] at ep
            cases oh with
            | none =>
              simp only [bndO] at hhi
              injection hhi with hhi
              subst hhi
              simp only [Option.map_none, Option.map_some, ep]
              rw [run_slice_string_l _ _ _ ht ik i h0 (by omega), hlo]
            | some q =>
              simp only [bndO] at hhi
              split at hhi
              · rename_i ik' i' hq
                split at hhi
                · rename_i h0'
                  injection hhi with hhi
                  have eq := he _ _ hq
                  simp only [VR] at eq
                  simp only [Option.map_some, ep, eq]
                  rw [run_slice_string _ _ _ ik ik' i i' ht h0 (by omega) (by omega), hlo, hhi]
                cases hhi
              cases hhi
          cases hlo
        cases hlo
    simp only [execOp, ex, Sem.run_bind, Option.map_none, key, Result.andThen_ok, Sem.run_pure]
theorem Zbg {s : ByteArray} {lo hi S b : Nat} {ol oh : Option Operand} {zv : Value} (ht : C.ty T = some ⟨.str, S, b, zv⟩) (hx : evO C env x = some (.str s)) (hlo : bndO C env 0 ol = some lo) (hhi : bndO C env s.size oh = some hi) (hl : lo ≤ hi) (hh : hi ≤ s.size) :
    OpQ C ⟨dst, .slice T x ol oh none, ty, pos, aft, gd⟩ env H (.str (s.extract lo hi)) := ZfM (ty_str ht) hx hlo hhi hl hh
def bytesOf (l : List Nat) : ByteArray := ⟨(l.map UInt8.ofNat).toArray⟩
end
end Go.V
/- Rounds as a printed proof uses them. -/
namespace Go.V
open Go.RowKit
section
variable {C : Ctx} {Q : Post} {ops : Array Oper} {rest : List Oper} {k : List Item} {env : List D} {H H' : Heap} {df : List ADef} {id : Nat} {ps : Array Tmp} {asg bd : Code} {envL : List D}
variable {dst : Option Tmp} {ty : TypeId} {pos : String} {aft : Array Edge} {gd : Option (Nat × Bool)} {x : Operand}
theorem ARun.hp (h : H = H') (hk : ARun C Q k env H' df) : ARun C Q k env H df := h ▸ hk
theorem ARun.env0 {env' : List D} (h : env = env') (hk : ARun C Q k env' H df) : ARun C Q k env H df := h ▸ hk
theorem AOps.hp (h : H = H') (hk : AOps C Q ops rest k env H' df) : AOps C Q ops rest k env H df := h ▸ hk
theorem ARun.beginRoundI (hq : Q.rd = some id) (ho : H[id]? = some (loopO .ready ps asg bd envL)) [hp : PutL H id (loopO .busy ps asg bd envL) H'] (h : ARun C Q k env H' df) : ARun C Q (.beginRound :: k) env H df :=
  ARun.beginRound hq ho (by rw [hp.eq]; exact h)
theorem AOps.yieldI {ds envR e1 e2 : List D} {args : List Operand} {tys : Array TypeId} {ps : List Tmp} (K : Option Code → Heap → Prop) [h1 : Put env dst (.bool true) e1] [h2 : Put env dst (.bool false) e2] (hg : gOk ops.toList env gd = some true) (hx : evO C env x = some (.yld id)) (ha : evOs C env args = some ds) (ho : H[id]? = some (loopO .ready ps.toArray asg bd envL)) (hl : ds.length = ps.length) (hR : setL envL (ps.zip ds) = envR)
    (hb : ARun C (QRound id K) [.code asg, .beginRound, .code bd] envR H []) (hbusy : ∀ j H', K j H' → H'[id]? = some (loopO .busy ps.toArray asg bd envL))
    (hk : ∀ H', K none H' → AOps C Q ops rest k e1 (H'.set id (loopO .ready ps.toArray asg bd envL)) df)
    (hst : ∀ c H', K (some c) H' → AOps C Q ops rest k e2 (H'.set id (loopO (.done c) ps.toArray asg bd envL)) df) :
    AOps C Q ops (⟨dst, .call ⟨.value x, args.toArray, tys⟩, ty, pos, aft, gd⟩ :: rest) k env H df :=
  AOps.yield K hg hx ha ho hl hR hb hbusy (by rw [h1.eq]; exact hk) (by rw [h2.eq]; exact hst)
end
theorem DC.mono {C : Ctx} {f : FuncId} {H : Heap} {args : List D} {m : AMode} {R R' : AMode → Heap → Prop} (h : DC C f H args m R) (hr : ∀ m' H', R m' H' → R' m' H') : DC C f H args m R' := by
  refine ⟨h.1, fun L0 w μ vs u hs ha hu c cs hc => ?_⟩
  obtain ⟨e, u', w', fr, ⟨v, m', H', μ', h1, h2, h3⟩, h4⟩ := h.2 L0 w μ vs u hs ha hu c cs hc
  exact ⟨e, u', w', fr, ⟨v, m', H', μ', h1, hr _ _ h2, h3⟩, h4⟩
section
variable {C : Ctx} {env : List D} {H : Heap} {p : Tmp} {T : TypeId} {i off : Nat} {o : AObj} {d : D} {rs : List ResultVar} {ds : List D} {te : TE}
theorem ResR.cell1 (h1 : env[p]? = some (.ptr i off)) (ht : C.ty T = some te) (ha : aggK te.k = false) (ho : H[i]? = some (some o)) (hd : o.cells[off]? = some d) (r : ResR C env H rs ds) : ResR C env H (.cell p T :: rs) (d :: ds) :=
  .one h1 (ty_tic ht).1 ((ty_tic ht).2.trans ha) ho hd r
theorem ResR.cellA {cs : List D} (h1 : env[p]? = some (.ptr i off)) (ht : C.ty T = some te) (ha : aggK te.k = true) (ho : H[i]? = some (some o)) (hd : (o.cells.drop off).take te.size = cs) (hl : cs.length = te.size) (r : ResR C env H rs ds) : ResR C env H (.cell p T :: rs) (.agg cs :: ds) :=
  .agg h1 (ty_tic ht).1 ((ty_tic ht).2.trans ha) ho hd hl r
end
end Go.V
/- BOXES that are never written. -/
namespace Go.V
open Go.RowKit
instance (priority := low) AppL.any {α : Type} {l : List α} {a : α} : AppL l a l.length (l ++ [a]) := ⟨rfl, rfl⟩
instance (priority := low) PutL.any {α : Type} {l : List α} {i : Nat} {a : α} : PutL l i a (l.set i a) := ⟨rfl⟩
section
variable {C : Ctx} {env : List D} {H : Heap} {dst : Option Tmp} {ty : TypeId} {pos : String} {aft : Array Edge} {gd : Option (Nat × Bool)} {x y z : Operand} {d : D} {T : TypeId}
theorem pures_at {cs : List D} (hp : D.pure.pures cs = true) {j : Nat} {d : D} (hd : cs[j]? = some d) : d.pure = true := by
  have key : ∀ (l : List D) (j : Nat), D.pure.pures l = true → l[j]? = some d → d.pure = true := by
    intro l
    induction l with
    | nil => intro j _ h; simp at h
    | cons c l ih =>
      intro j h hj
      simp only [D.pure.pures, Bool.and_eq_true] at h
      cases j with
      | zero => simp at hj; subst hj; exact h.1
      | succ j => simp only [List.getElem?_cons_succ] at hj; exact ih j h.2 hj
  exact key cs j hp hd
theorem q_boxF {ds : List D} (hx : evO C env x = some d) (hd : cellsD d = some ds) (hk : ds.all (okCell H) = true) (hp : D.pure.pures ds = true) : OpQ C ⟨dst, .box T x, ty, pos, aft, gd⟩ env H (.sptr ds) :=
  OpQ.newF (e := T) fun L0 w μ a hs he => by
    have ex := he _ _ hx
    obtain ⟨v1, v2⟩ := cellsD_ok hd hk ex
    refine ⟨.pointer (some ⟨w.heap.size, 0, none⟩), (a.eval x).cells, by simp [execOp, Instr.box, newVar, newRow], fun hl => ?_⟩
    simp only [VR]
    refine ⟨⟨w.heap.size, 0, none⟩, rfl, by simp, fun hfb => Nat.lt_irrefl _ (hs.forb_lt hfb), VRL_mk fun j d hd => ?_⟩
    obtain ⟨v, k1, k2⟩ := VRs_get v1 hd
    refine ⟨v, ?_, v2 v (List.mem_of_getElem? k1), VR.step (hl.step L0).pure (VR.drop (pures_at hp hd) k2)⟩
    rw [Nat.zero_add, add_lit, cell_row (heap_alloc_new w _)]
    simpa using k1
theorem q_ifEq {U T' T : TypeId} (hi : isIf C.P U = true) (hx : evO C env x = some (.iface T d)) : OpQ C ⟨dst, .binOp .eql U x (.const .nilIface) T', ty, pos, aft, gd⟩ env H (.bool false) :=
  OpQ.of_run fun L w μ a he => by
    have ex := he _ _ hx
    simp only [VR] at ex
    obtain ⟨u, ex, _⟩ := ex
    refine ⟨.bool false, ?_, by simp only [VR]⟩
    have hg : (eqGuard .eql U x (.const .nilIface) (.iface T u) .nilIface).run C.P w = .ok () w := by
      unfold eqGuard; simp
    have ec : a.eval (.const .nilIface) = .nilIface := rfl
    simp only [execOp, ex, ec, Sem.run_bind, hg, Result.andThen_ok, run_ifEq w hi T u, Sem.run_pure]
theorem Zf1 {U T' : TypeId} (hi : isIf C.P U = true) (hx : evO C env x = some .niliface) : OpQ C ⟨dst, .binOp .eql U x (.const .nilIface) T', ty, pos, aft, gd⟩ env H (.bool true) :=
  OpQ.of_run fun L w μ a he => by
    have ex := he _ _ hx
    simp only [VR] at ex
    refine ⟨.bool true, ?_, by simp only [VR]⟩
    have hg : (eqGuard .eql U x (.const .nilIface) .nilIface .nilIface).run C.P w = .ok () w := by
      unfold eqGuard; simp
    have ec : a.eval (.const .nilIface) = .nilIface := rfl
    simp only [execOp, ex, ec, Sem.run_bind, hg, Result.andThen_ok, run_ifEqNil w hi, Sem.run_pure]
end
theorem DC.of_run1 {C : Ctx} {f : FuncId} {fn : Func} {id : Nat} {c2 : Code} {args : List D} {H : Heap} {m : AMode} {R : AMode → Heap → Prop} {n : Nat} {t1 : Tmp} {ty1 : TypeId} {p1 : String} {a1 : Array Edge} {at1 : Array TypeId} {env1 : List D}
    (hf : C.P.funcs[f]? = some fn) (hen : Enters C.P f) (hb : fn.body = some (.seq (.region id #[⟨some t1, .call ⟨.builtin .recover, #[], at1⟩, ty1, p1, a1, none⟩] false) c2)) (hn : fn.ntmps = n) (hres : fn.results.toList = [])
    (hm : ∀ d, m ≠ .recovered d) (he1 : envPut (args ++ List.replicate (n - args.length) (.tup [])) (some t1) (recD m).1 = env1)
    (h : ARun C ⟨none, fun x _ H' df => df = [] ∧ match x with | .ret => R (recD m).2 H' | .norm => R (recD m).2 H' | _ => False⟩ [.code c2] env1 H []) : DC C f H args m R := by
  refine ⟨hen, fun L0 w μ vs u hs ha hu c₀ cs hc₀ => ?_⟩
  have hl := VRs_length ha
  let b : Frame := { (default : Frame) with fn := f, kind := .deferred }
  let a : Act := { tmps := vs.toArray ++ Array.replicate (fn.ntmps - vs.toArray.size) undef, defers := [] }
  have henter : Frame.enter C.P f vs.toArray .deferred = b.at a [.code (.seq (.region id #[⟨some t1, .call ⟨.builtin .recover, #[], at1⟩, ty1, p1, a1, none⟩] false) c2)] := by
    simp [Frame.enter, Frame.at, hf, hb, b, a]
  have htm : VRs w (forb L0 μ H) μ H (args ++ List.replicate (n - args.length) (.tup [])) a.tmps.toList := by
    have : a.tmps.toList = vs ++ List.replicate (n - args.length) undef := by
      simp [a, hn, hl]
    rw [this]
    exact VRs_append ha (VRs_repl _)
  have hrec : ∃ (v : Value) (u' : FrameMode), VR w (forb L0 μ H) μ H (recD m).1 v ∧ ModeR w (forb L0 μ H) μ H (recD m).2 u' ∧
      (match recoverD (c₀ :: cs) with | some (v, cs') => (v, cs') | none => (.nilIface, c₀ :: cs)) = (v, { c₀ with mode := u' } :: cs) := by
    cases m with
    | returning =>
      have hu' : u = .returning := hu
      subst hu'
      refine ⟨.nilIface, .returning, by simp [recD, VR], rfl, ?_⟩
      have : c₀ = { c₀ with mode := .returning } := by rw [← hc₀]
      simp only [recoverD, hc₀]
      rw [← this]
    | panicking d =>
      obtain ⟨v, hu', hvd⟩ := hu
      subst hu'
      refine ⟨v, .panicking [{ v := v, recovered := true }], hvd, ⟨v, rfl, hvd⟩, ?_⟩
      simp only [recoverD, hc₀, pan1]
    | recovered d => exact (hm d rfl).elim
  obtain ⟨v, u', hv, hu', hrd⟩ := hrec
  let aa : Act := a.put (some t1) v
  have hv1 : VRs w (forb L0 μ H) μ H env1 (a.put (some t1) v).tmps.toList := by rw [← he1]; exact VRs_put htm hv
  have hstep : ∃ e a' cs' w', (e = .normal ∧ a' = aa ∧ cs' = { c₀ with mode := u' } :: cs ∧ w' = w) ∧ Arrives C.P (lone (b.at a (.inRegion #[⟨some t1, .call ⟨.builtin .recover, #[], at1⟩, ty1, p1, a1, none⟩] [0] :: [.code c2])) (c₀ :: cs) w) b [.code c2] cs' e a' w' := by
    refine wp_opsS (P := C.P) (Q := fun e a' cs' w' => e = .normal ∧ a' = aa ∧ cs' = { c₀ with mode := u' } :: cs ∧ w' = w) [0] a (c₀ :: cs) w ?_ b [.code c2] rfl rfl
    have hro : ∀ (w : World), (execOp a.eval ⟨some t1, .call ⟨.builtin .recover, #[], at1⟩, ty1, p1, a1, none⟩).run C.P w = .ok .recover w := by
      intro w; simp [execOp, resolve, invoke, builtin]
    have fin : ∀ cs', cs' = { c₀ with mode := u' } :: cs → wpOpsS C.P #[⟨some t1, .call ⟨.builtin .recover, #[], at1⟩, ty1, p1, a1, none⟩] (fun e a' cs' w' => e = .normal ∧ a' = aa ∧ cs' = { c₀ with mode := u' } :: cs ∧ w' = w) [] (a.put (some t1) v) cs' w := by
      intro cs' hcs
      simp [wpOpsS, hcs, aa]
    cases hrr : recoverD (c₀ :: cs) with
    | none =>
      rw [hrr] at hrd
      injection hrd with h1 h2
      subst h1
      have := fin (c₀ :: cs) h2
      simpa [wpOpsS, Region.wanted, hro, hrr] using this
    | some p =>
      obtain ⟨pv, pcs⟩ := p
      rw [hrr] at hrd
      injection hrd with h1 h2
      subst h1
      have := fin pcs h2
      simpa [wpOpsS, Region.wanted, hro, hrr] using this
  obtain ⟨e0, a0, cs0, w0, ⟨q1, q2, q3, q4⟩, harr⟩ := hstep
  rw [q1, q2, q3, q4] at harr
  obtain ⟨e, a', w', ⟨x, env, H', μ', df, ⟨hdf, hR⟩, s1, hv', hd', hx', he'⟩, harr2⟩ := h.out L0 w μ H w μ aa hs hv1 rfl (Evo.refl _ _ _) b ({ c₀ with mode := u' } :: cs) rfl
  subst hdf
  have hd0 : a'.defers = [] := hd'
  have hsteps : Steps C.P (lone (b.at a [.code (.seq (.region id #[⟨some t1, .call ⟨.builtin .recover, #[], at1⟩, ty1, p1, a1, none⟩] false) c2)]) (c₀ :: cs) w) (lone (b.at aa [.code c2]) ({ c₀ with mode := u' } :: cs) w) :=
    Steps.trans (.one step_seq) (Steps.trans (.one step_region) harr)
  rw [← henter] at hsteps
  have eAt : b.atR aa [.code c2] = b.at aa [.code c2] := Frame.atR_of_none rfl _ _
  rw [← eAt] at hsteps
  obtain ⟨rv, r1, _⟩ := results_ok s1 hv' (fn := fn) (ds := []) (by rw [hres]; exact .nil)
  have hmode : ModeR w' (forb L0 μ' H') μ' H' (recD m).2 u' := hu'.step (he'.step L0)
  cases x with
  | ret =>
    have hx2 : e = .ret := hx'
    subst hx2
    obtain ⟨k, hst⟩ := harr2
    exact ⟨.returned rv, u', w', { b.atR a' (.code .ret :: k) with mode := .returning }, ⟨rv, (recD m).2, H', μ', rfl, hR, s1, hmode, he'⟩, Steps.trans hsteps (Steps.trans hst (.one (stepR_ret rfl))), rfl, rfl, hd0, fn, hf, r1⟩
  | norm =>
    have hx2 : e = .normal := hx'
    subst hx2
    exact ⟨.returned rv, u', w', { b.atR a' [] with mode := .returning }, ⟨rv, (recD m).2, H', μ', rfl, hR, s1, hmode, he'⟩, Steps.trans hsteps (Steps.trans harr2 (.one (stepR_end rfl))), rfl, rfl, hd0, fn, hf, r1⟩
  | exit id => exact hR.elim
  | pan d => exact hR.elim
end Go.V
namespace Go.V
theorem OpQ.cast {C : Ctx} {o : Oper} {env : List D} {H : Heap} {d d' : D} (h : OpQ C o env H d) (e : d = d') : OpQ C o env H d' := e ▸ h
theorem zzb {C : Ctx} {Q : Post} {ops : Array Oper} {rest : List Oper} {k : List Item} {env env' : List D} {H : Heap} {df : List ADef} {dst : Option Tmp} {ty : TypeId} {pos : String} {aft : Array Edge} {gd : Option (Nat × Bool)} {d : D} {x : Operand} {T : TypeId} {ds : List D} [hput : Put env dst (.sptr ds) env'] (hk : AOps C Q ops rest k env' H df) (hg : gOk ops.toList env gd = some true := by rfl) (hx : evO C env x = some d := by rfl) (hd : cellsD d = some ds := by rfl) (hok : ds.all (okCell H) = true := by rfl) (hp : D.pure.pures ds = true := by rfl) : AOps C Q ops (⟨dst, .box T x, ty, pos, aft, gd⟩ :: rest) k env H df := y_op hg (q_boxF hx hd hok hp) hk
end Go.V
