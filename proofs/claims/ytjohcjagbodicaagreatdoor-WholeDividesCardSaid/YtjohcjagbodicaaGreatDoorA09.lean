/- A part of the proof: abstract values, rules for the steps of the program's form, and contracts of its functions, each proved; no condition. -/
import Derived.Test.YtjohcjagbodicaaGreatDoorA08
import Derived.Recover
set_option linter.unusedVariables false
set_option linter.unusedSimpArgs false
/- BOXES that are never written. -/
namespace Go.V
open Go.RowKit
instance (priority := low) AppL.any {α : Type} {l : List α} {a : α} : AppL l a l.length (l ++ [a]) := ⟨rfl, rfl⟩
instance (priority := low) PutL.any {α : Type} {l : List α} {i : Nat} {a : α} : PutL l i a (l.set i a) := ⟨rfl⟩
section
variable {C : Ctx} {env : List D} {H : Heap} {dst : Option Tmp} {ty : TypeId} {pos : String} {aft : Array Edge} {gd : Option (Nat × Bool)} {x y z : Operand} {d : D} {T : TypeId}
theorem pures_at {cs : List D} (hp : D.pure.pures cs = true) {j : Nat} {d : D} (hd : cs[j]? = some d) : d.pure = true := by
  have key : ∀ (l : List D) (j : Nat), D.pure.pures l = true → l[j]? = some d → d.pure = true := by
    intro l
    induction l with
    | nil => intro j _ h; simp at h
    | cons c l ih =>
      intro j h hj
      simp only [D.pure.pures, Bool.and_eq_true] at h
      cases j with
      | zero => simp at hj; subst hj; exact h.1
      | succ j => simp only [List.getElem?_cons_succ] at hj; exact ih j h.2 hj
  exact key cs j hp hd
theorem q_boxF {ds : List D} (hx : evO C env x = some d) (hd : cellsD d = some ds) (hk : ds.all (okCell H) = true) (hp : D.pure.pures ds = true) : OpQ C ⟨dst, .box T x, ty, pos, aft, gd⟩ env H (.sptr ds) :=
  OpQ.newF (e := T) fun L0 w μ a hs he => by
    have ex := he _ _ hx
    obtain ⟨v1, v2⟩ := cellsD_ok hd hk ex
    refine ⟨.pointer (some ⟨w.heap.size, 0, none⟩), (a.eval x).cells, by simp [execOp, Instr.box, newVar, newRow], fun hl => ?_⟩
    simp only [VR]
    refine ⟨⟨w.heap.size, 0, none⟩, rfl, by simp, fun hfb => Nat.lt_irrefl _ (hs.forb_lt hfb), VRL_mk fun j d hd => ?_⟩
    obtain ⟨v, k1, k2⟩ := VRs_get v1 hd
    refine ⟨v, ?_, v2 v (List.mem_of_getElem? k1), VR.step (hl.step L0).pure (VR.drop (pures_at hp hd) k2)⟩
    rw [Nat.zero_add, add_lit, cell_row (heap_alloc_new w _)]
    simpa using k1
theorem q_ifEq {U T' T : TypeId} (hi : isIf C.P U = true) (hx : evO C env x = some (.iface T d)) : OpQ C ⟨dst, .binOp .eql U x (.const .nilIface) T', ty, pos, aft, gd⟩ env H (.bool false) :=
  OpQ.of_run fun L w μ a he => by
    have ex := he _ _ hx
    simp only [VR] at ex
    obtain ⟨u, ex, _⟩ := ex
    refine ⟨.bool false, ?_, by simp only [VR]⟩
    have hg : (eqGuard .eql U x (.const .nilIface) (.iface T u) .nilIface).run C.P w = .ok () w := by
      unfold eqGuard; simp
    have ec : a.eval (.const .nilIface) = .nilIface := rfl
    simp only [execOp, ex, ec, Sem.run_bind, hg, Result.andThen_ok, run_ifEq w hi T u, Sem.run_pure]
theorem q_ifEqNil {U T' : TypeId} (hi : isIf C.P U = true) (hx : evO C env x = some .niliface) : OpQ C ⟨dst, .binOp .eql U x (.const .nilIface) T', ty, pos, aft, gd⟩ env H (.bool true) :=
  OpQ.of_run fun L w μ a he => by
    have ex := he _ _ hx
    simp only [VR] at ex
    refine ⟨.bool true, ?_, by simp only [VR]⟩
    have hg : (eqGuard .eql U x (.const .nilIface) .nilIface .nilIface).run C.P w = .ok () w := by
      unfold eqGuard; simp
    have ec : a.eval (.const .nilIface) = .nilIface := rfl
    simp only [execOp, ex, ec, Sem.run_bind, hg, Result.andThen_ok, run_ifEqNil w hi, Sem.run_pure]
end
theorem DC.of_run1 {C : Ctx} {f : FuncId} {fn : Func} {id : Nat} {c2 : Code} {args : List D} {H : Heap} {m : AMode} {R : AMode → Heap → Prop} {n : Nat} {t1 : Tmp} {ty1 : TypeId} {p1 : String} {a1 : Array Edge} {at1 : Array TypeId} {env1 : List D}
    (hf : C.P.funcs[f]? = some fn) (hen : Enters C.P f) (hb : fn.body = some (.seq (.region id #[⟨some t1, .call ⟨.builtin .recover, #[], at1⟩, ty1, p1, a1, none⟩] false) c2)) (hn : fn.ntmps = n) (hres : fn.results.toList = [])
    (hm : ∀ d, m ≠ .recovered d) (he1 : envPut (args ++ List.replicate (n - args.length) (.tup [])) (some t1) (recD m).1 = env1)
    (h : ARun C ⟨none, fun x _ H' df => df = [] ∧ match x with | .ret => R (recD m).2 H' | .norm => R (recD m).2 H' | _ => False⟩ [.code c2] env1 H []) : DC C f H args m R := by
  refine ⟨hen, fun L0 w μ vs u hs ha hu c₀ cs hc₀ => ?_⟩
  have hl := VRs_length ha
  let b : Frame := { (default : Frame) with fn := f, kind := .deferred }
  let a : Act := { tmps := vs.toArray ++ Array.replicate (fn.ntmps - vs.toArray.size) undef, defers := [] }
  have henter : Frame.enter C.P f vs.toArray .deferred = b.at a [.code (.seq (.region id #[⟨some t1, .call ⟨.builtin .recover, #[], at1⟩, ty1, p1, a1, none⟩] false) c2)] := by
    simp [Frame.enter, Frame.at, hf, hb, b, a]
  have htm : VRs w (forb L0 μ H) μ H (args ++ List.replicate (n - args.length) (.tup [])) a.tmps.toList := by
    have : a.tmps.toList = vs ++ List.replicate (n - args.length) undef := by
      simp [a, hn, hl]
    rw [this]
    exact VRs_append ha (VRs_repl _)
  -- recover's value, and the frame behind
  have hrec : ∃ (v : Value) (u' : FrameMode), VR w (forb L0 μ H) μ H (recD m).1 v ∧ ModeR w (forb L0 μ H) μ H (recD m).2 u' ∧
      (match recoverD (c₀ :: cs) with | some (v, cs') => (v, cs') | none => (.nilIface, c₀ :: cs)) = (v, { c₀ with mode := u' } :: cs) := by
    cases m with
    | returning =>
      have hu' : u = .returning := hu
      subst hu'
      refine ⟨.nilIface, .returning, by simp [recD, VR], rfl, ?_⟩
      have : c₀ = { c₀ with mode := .returning } := by rw [← hc₀]
      simp only [recoverD, hc₀]
      rw [← this]
    | panicking d =>
      obtain ⟨v, hu', hvd⟩ := hu
      subst hu'
      refine ⟨v, .panicking [{ v := v, recovered := true }], hvd, ⟨v, rfl, hvd⟩, ?_⟩
      simp only [recoverD, hc₀, pan1]
    | recovered d => exact (hm d rfl).elim
  obtain ⟨v, u', hv, hu', hrd⟩ := hrec
  let aa : Act := a.put (some t1) v
  have hv1 : VRs w (forb L0 μ H) μ H env1 (a.put (some t1) v).tmps.toList := by rw [← he1]; exact VRs_put htm hv
  have hstep : ∃ e a' cs' w', (e = .normal ∧ a' = aa ∧ cs' = { c₀ with mode := u' } :: cs ∧ w' = w) ∧ Arrives C.P (lone (b.at a (.inRegion #[⟨some t1, .call ⟨.builtin .recover, #[], at1⟩, ty1, p1, a1, none⟩] [0] :: [.code c2])) (c₀ :: cs) w) b [.code c2] cs' e a' w' := by
    refine wp_opsS (P := C.P) (Q := fun e a' cs' w' => e = .normal ∧ a' = aa ∧ cs' = { c₀ with mode := u' } :: cs ∧ w' = w) [0] a (c₀ :: cs) w ?_ b [.code c2] rfl rfl
    have hro : ∀ (w : World), (execOp a.eval ⟨some t1, .call ⟨.builtin .recover, #[], at1⟩, ty1, p1, a1, none⟩).run C.P w = .ok .recover w := by
      intro w; simp [execOp, resolve, invoke, builtin]
    have fin : ∀ cs', cs' = { c₀ with mode := u' } :: cs → wpOpsS C.P #[⟨some t1, .call ⟨.builtin .recover, #[], at1⟩, ty1, p1, a1, none⟩] (fun e a' cs' w' => e = .normal ∧ a' = aa ∧ cs' = { c₀ with mode := u' } :: cs ∧ w' = w) [] (a.put (some t1) v) cs' w := by
      intro cs' hcs
      simp [wpOpsS, hcs, aa]
    cases hrr : recoverD (c₀ :: cs) with
    | none =>
      rw [hrr] at hrd
      injection hrd with h1 h2
      subst h1
      have := fin (c₀ :: cs) h2
      simpa [wpOpsS, Region.wanted, hro, hrr] using this
    | some p =>
      obtain ⟨pv, pcs⟩ := p
      rw [hrr] at hrd
      injection hrd with h1 h2
      subst h1
      have := fin pcs h2
      simpa [wpOpsS, Region.wanted, hro, hrr] using this
  obtain ⟨e0, a0, cs0, w0, ⟨q1, q2, q3, q4⟩, harr⟩ := hstep
  rw [q1, q2, q3, q4] at harr
  obtain ⟨e, a', w', ⟨x, env, H', μ', df, ⟨hdf, hR⟩, s1, hv', hd', hx', he'⟩, harr2⟩ := h.out L0 w μ H w μ aa hs hv1 rfl (Evo.refl _ _ _) b ({ c₀ with mode := u' } :: cs) rfl
  subst hdf
  have hd0 : a'.defers = [] := hd'
  have hsteps : Steps C.P (lone (b.at a [.code (.seq (.region id #[⟨some t1, .call ⟨.builtin .recover, #[], at1⟩, ty1, p1, a1, none⟩] false) c2)]) (c₀ :: cs) w) (lone (b.at aa [.code c2]) ({ c₀ with mode := u' } :: cs) w) :=
    Steps.trans (.one step_seq) (Steps.trans (.one step_region) harr)
  rw [← henter] at hsteps
  have eAt : b.atR aa [.code c2] = b.at aa [.code c2] := Frame.atR_of_none rfl _ _
  rw [← eAt] at hsteps
  obtain ⟨rv, r1, _⟩ := results_ok s1 hv' (fn := fn) (ds := []) (by rw [hres]; exact .nil)
  have hmode : ModeR w' (forb L0 μ' H') μ' H' (recD m).2 u' := hu'.step (he'.step L0)
  cases x with
  | ret =>
    have hx2 : e = .ret := hx'
    subst hx2
    obtain ⟨k, hst⟩ := harr2
    exact ⟨.returned rv, u', w', { b.atR a' (.code .ret :: k) with mode := .returning }, ⟨rv, (recD m).2, H', μ', rfl, hR, s1, hmode, he'⟩, Steps.trans hsteps (Steps.trans hst (.one (stepR_ret rfl))), rfl, rfl, hd0, fn, hf, r1⟩
  | norm =>
    have hx2 : e = .normal := hx'
    subst hx2
    exact ⟨.returned rv, u', w', { b.atR a' [] with mode := .returning }, ⟨rv, (recD m).2, H', μ', rfl, hR, s1, hmode, he'⟩, Steps.trans hsteps (Steps.trans harr2 (.one (stepR_end rfl))), rfl, rfl, hd0, fn, hf, r1⟩
  | exit id => exact hR.elim
  | pan d => exact hR.elim
end Go.V
namespace Go.V
theorem q_assignAny {C : Ctx} {env : List D} {H : Heap} {dst : Option Tmp} {ty : TypeId} {pos : String} {aft : Array Edge} {gd : Option (Nat × Bool)} {x : Operand} : OpQ C ⟨dst, .assign x, ty, pos, aft, gd⟩ env H .any :=
  OpQ.of_run fun L w μ a hx => ⟨a.eval x, by simp [execOp], by simp only [VR]⟩
theorem OpQ.cast {C : Ctx} {o : Oper} {env : List D} {H : Heap} {d d' : D} (h : OpQ C o env H d) (e : d = d') : OpQ C o env H d' := e ▸ h
end Go.V

set_option synthInstance.maxSize 100000
set_option synthInstance.maxHeartbeats 2000000
namespace Go.V
open Go.RowKit Go.Proofs

/-- What a failure of package whole panics with. -/
abbrev failW (e : Int) : D := .iface t_whole_failure (.agg [.int .i64 e])
theorem pc_w_need (ok : Bool) (e : Int) : PC C n_whole_need [.bool ok, .int .i64 e] (fun o => (ok = true ∧ o = .ret (.tup [])) ∨ (ok = false ∧ o = .pan (failW e))) := by
  refine PC.run fn_whole_need en_whole_need rfl nt_whole_need rfl (rs := []) (by rw [rs_whole_need]) (by simp only [List.length_cons, List.length_nil, Nat.reduceAdd, Nat.reduceSub, List.replicate_succ, List.replicate_zero, List.cons_append, List.nil_append]; exact rfl) ?_
  refine ARun.seq ?_
  refine ARun.region ?_
  refine y_op rfl (q_move rfl) ?_
  refine y_op rfl (q_not rfl) ?_
  refine AOps.nil ?_
  -- COND on ('t', 5)
  refine ARun.cond rfl (fun h => ?_) (fun h => ?_)
  · skip
    refine ARun.region ?_
    refine y_op rfl (q_move rfl) ?_
    refine y_op rfl (q_build rfl rfl rfl rfl rfl) ?_
    refine y_op rfl (q_mkIface rfl rfl rfl) ?_
    exact x_panic rfl rfl ⟨_, _, .same _, rfl, .inr ⟨by simpa using h, rfl⟩⟩
    -- ended
  · skip
    refine ARun.skip ?_
    -- END of the function
    refine ARun.nil ?_
    refine ⟨_, _, _, .nil, .nil, rfl, ?_⟩
    exact .inl ⟨by simpa using h, rfl⟩
theorem pc_w_must (n : Nat) (e : Int) : PC C n_whole_must [numD n, .int .i64 e] (fun o => (e = 0 ∧ o = .ret (numD n)) ∨ (e ≠ 0 ∧ o = .pan (failW e))) := by
  refine PC.run fn_whole_must en_whole_must rfl nt_whole_must rfl (rs := [.tmp 4]) (by rw [rs_whole_must]) (by simp only [List.length_cons, List.length_nil, Nat.reduceAdd, Nat.reduceSub, List.replicate_succ, List.replicate_zero, List.cons_append, List.nil_append]; exact rfl) ?_
  refine ARun.seq ?_
  refine ARun.region ?_
  refine y_op rfl (q_assign rfl) ?_
  refine AOps.nil ?_
  refine ARun.seq ?_
  refine ARun.region ?_
  refine y_op rfl (q_move rfl) ?_
  refine y_op rfl (q_int rfl rfl rfl) ?_
  refine y_op rfl (q_move rfl) ?_
  refine y_gop rfl (g_call rfl rfl (PC.gp (pc_w_need _ e))) (fun hg => ?_) (fun q hq => by obtain ⟨hq, rfl⟩ := hq; exact ⟨_, _, .same _, rfl, .inr ⟨by simpa using hq, rfl⟩⟩)
  refine AOps.nil ?_
  refine ARun.seq ?_
  refine ARun.region ?_
  refine y_op rfl (q_move rfl) ?_
  refine y_op rfl (q_assign rfl) ?_
  refine AOps.nil ?_
  -- RET results [(4,)]
  refine ARun.ret ?_
  refine ⟨_, _, _, .tmp rfl .nil, .cons (.same _) .nil, rfl, ?_⟩
  exact .inl ⟨by simpa using hg, rfl⟩
theorem pc_w_must0 (n : Nat) : PC C n_whole_must [numD n, .int .i64 0] (fun o => o = .ret (numD n)) := (pc_w_must n 0).mono fun o ho => (ho.resolve_right (fun h => h.1 rfl)).2

/-- An integer, whatever it is; a valid one. -/
abbrev intA (b : Bool) (xs : List Nat) : D := .agg [.bool b, sln .u32 xs]
abbrev intD (z : Int) : D := .agg [.bool (decide (z < 0)), numD z.natAbs]
def sgnd (b : Bool) (n : Nat) : Int := bif b then -(n : Int) else n
theorem sgnd_abs (b : Bool) (n : Nat) : (sgnd b n).natAbs = n := by cases b <;> simp [sgnd]
theorem sgnd_neg (b : Bool) (n : Nat) : decide (sgnd b n < 0) = (b && decide (0 < n)) := by
  cases b with
  | true => simp [sgnd]
  | false => simp only [sgnd, cond_false, Bool.false_and]; exact decide_eq_false (by omega)
theorem pc_w_signed (b : Bool) (n : Nat) : PC C n_whole_signed [.bool b, numD n] (fun o => o = .ret (intD (sgnd b n))) := by
  have fin : ∀ c : Bool, c = (b && decide (0 < n)) → D.agg [.bool c, numD n] = intD (sgnd b n) := fun c hc => by rw [intD, sgnd_abs, sgnd_neg, hc]
  refine PC.run fn_whole_signed en_whole_signed rfl nt_whole_signed rfl (rs := [.cell 4 25]) (by rw [rs_whole_signed]) (by simp only [List.length_cons, List.length_nil, Nat.reduceAdd, Nat.reduceSub, List.replicate_succ, List.replicate_zero, List.cons_append, List.nil_append]; exact rfl) ?_
  refine ARun.seq ?_
  refine ARun.region ?_
  refine y_new rfl (n_alloc rfl rfl rfl rfl) ?_
  refine AOps.nil ?_
  refine ARun.seq ?_
  refine ARun.region ?_
  refine y_op rfl (q_move rfl) ?_
  refine y_op rfl (q_move rfl) ?_
  -- guard: slot 6
  refine AOps.bool 6 rfl (fun h => ?_) (fun h => ?_)
  · skip
    refine y_op rfl (q_move rfl) ?_
    refine y_op rfl (q_lenSl rfl rfl) ?_
    refine y_op rfl (q_int rfl rfl rfl) ?_
    refine y_op rfl (q_pick rfl rfl rfl rfl) ?_
    refine y_op rfl (q_move rfl) ?_
    refine y_op rfl (q_build rfl rfl rfl rfl rfl) ?_
    refine y_new rfl (n_storeN rfl rfl rfl rfl rfl rfl rfl rfl (Nat.le_of_ble_eq_true rfl) rfl) ?_
    refine AOps.nil ?_
    -- RET results [('cell', 4, 25)]
    refine ARun.ret ?_
    refine ⟨_, _, _, ResR.cellA rfl rfl rfl rfl rfl rfl .nil, .cons (.same _) .nil, rfl, ?_⟩
    rw [← fin (decide (((lim n).length : Int) > 0)) (by rw [h, Bool.true_and]; exact decide_eq_decide.2 ⟨fun h => by have := ln_pos.1 (show 0 < (lim n).length by omega); omega, fun h => by have := ln_pos.2 (show n ≠ 0 by omega); omega⟩)]
    rfl
  · skip
    refine y_skip rfl ?_
    refine y_skip rfl ?_
    refine y_skip rfl ?_
    refine y_op rfl (q_pick rfl rfl rfl rfl) ?_
    refine y_op rfl (q_move rfl) ?_
    refine y_op rfl (q_build rfl rfl rfl rfl rfl) ?_
    refine y_new rfl (n_storeN rfl rfl rfl rfl rfl rfl rfl rfl (Nat.le_of_ble_eq_true rfl) rfl) ?_
    refine AOps.nil ?_
    -- RET results [('cell', 4, 25)]
    refine ARun.ret ?_
    refine ⟨_, _, _, ResR.cellA rfl rfl rfl rfl rfl rfl .nil, .cons (.same _) .nil, rfl, ?_⟩
    rw [← fin false (by rw [h]; rfl)]
    rfl
end Go.V


set_option synthInstance.maxSize 100000
set_option synthInstance.maxHeartbeats 2000000
namespace Go.V
open Go.RowKit Go.Proofs

theorem okB_lim {a : Nat} (h : (lim a).length ≤ 1024) : okB (lim a) = true := okB_iff.2 ⟨h, Canon_lim a⟩
theorem resN_ok {a b : Nat} {v : Nat ⊕ Int} (ha : (lim a).length ≤ 1024) (hb : (lim b).length ≤ 1024) : resN (lim a) (lim b) v = (match v with
    | .inl n => if (lim n).length ≤ 1024 then (n, 0) else (0, 2)
    | .inr e => (0, e)) := by
  unfold resN; rw [okB_lim ha, okB_lim hb]; rfl
theorem pc_w_order (a b : Nat) (ha : (lim a).length ≤ 1024) (hb : (lim b).length ≤ 1024) : PC C n_whole_order [numD a, numD b] (fun o => o = .ret (.int .i64 (cmpI a b))) := by
  have hc : resC (lim a) (lim b) = (cmpI a b, 0) := by rw [resC, okB_lim ha, okB_lim hb, val_lim, val_lim]; rfl
  refine PC.run fn_whole_order en_whole_order rfl nt_whole_order rfl (rs := [.tmp 4]) (by rw [rs_whole_order]) (by simp only [List.length_cons, List.length_nil, Nat.reduceAdd, Nat.reduceSub, List.replicate_succ, List.replicate_zero, List.cons_append, List.nil_append]; exact rfl) ?_
  refine ARun.seq ?_
  refine ARun.region ?_
  refine y_op rfl (q_assign rfl) ?_
  refine AOps.nil ?_
  refine ARun.seq ?_
  refine ARun.region ?_
  refine y_op rfl (q_move rfl) ?_
  refine y_op rfl (q_move rfl) ?_
  refine y_op rfl (q_call rfl rfl (pc_nat_Cmp (lim a) (lim b) (U32_lim a) (U32_lim b))) ?_
  refine y_op rfl (q_move rfl) ?_
  refine y_op rfl (q_extract rfl rfl) ?_
  refine y_op rfl (q_extract rfl rfl) ?_
  refine y_op rfl (q_assign rfl) ?_
  refine y_op rfl (q_assign rfl) ?_
  refine AOps.nil ?_
  refine ARun.seq ?_
  refine ARun.region ?_
  refine y_op rfl (q_move rfl) ?_
  refine y_op rfl (q_assign rfl) ?_
  refine AOps.nil ?_
  -- RET results [(4,)]
  refine ARun.ret ?_
  refine ⟨_, _, _, .tmp rfl .nil, .cons (.same _) .nil, rfl, ?_⟩
  rw [hc]; rfl
theorem pc_w_negated (z : Int) : PC C n_whole_negated [intD z] (fun o => o = .ret (intD (-z))) := by
  refine PC.run fn_whole_negated en_whole_negated rfl nt_whole_negated rfl (rs := [.cell 2 25]) (by rw [rs_whole_negated]) (by simp only [List.length_cons, List.length_nil, Nat.reduceAdd, Nat.reduceSub, List.replicate_succ, List.replicate_zero, List.cons_append, List.nil_append]; exact rfl) ?_
  refine ARun.seq ?_
  refine ARun.region ?_
  refine y_op rfl (q_boxF rfl rfl rfl rfl) ?_
  refine y_new rfl (n_alloc rfl rfl rfl rfl) ?_
  refine AOps.nil ?_
  refine ARun.seq ?_
  refine ARun.region ?_
  refine y_op rfl (q_fldS rfl rfl rfl (by decide)) ?_
  refine y_op rfl (q_load rfl rfl rfl rfl) ?_
  refine y_op rfl (q_not rfl) ?_
  refine y_op rfl (q_fldS rfl rfl rfl (by decide)) ?_
  refine y_op rfl (q_load rfl rfl rfl rfl) ?_
  refine y_op rfl (q_call rfl rfl (pc_w_signed _ z.natAbs)) ?_
  refine y_new rfl (n_storeN rfl rfl rfl rfl rfl rfl rfl rfl (Nat.le_of_ble_eq_true rfl) rfl) ?_
  refine AOps.nil ?_
  -- RET results [('cell', 2, 25)]
  refine ARun.ret ?_
  refine ⟨_, _, _, ResR.cellA rfl rfl rfl rfl rfl rfl .nil, .cons (.same _) .nil, rfl, ?_⟩
  have : sgnd (!decide (z < 0)) z.natAbs = -z := by
    by_cases h : z < 0
    · simp only [sgnd, decide_eq_true h, Bool.not_true, cond_false]; omega
    · simp only [sgnd, decide_eq_false h, Bool.not_false, cond_true]; omega
  rw [this]; rfl
abbrev fitZ (z : Int) : Prop := (lim z.natAbs).length ≤ 1024
theorem must_add {a b n : Nat} (ha : (lim a).length ≤ 1024) (hb : (lim b).length ≤ 1024) : PC C n_whole_must [numD (resN (lim a) (lim b) (.inl n)).1, .int .i64 (resN (lim a) (lim b) (.inl n)).2] (fun o => ((lim n).length ≤ 1024 ∧ o = .ret (numD n)) ∨ ∃ p, (¬ (lim n).length ≤ 1024 ∧ p = failW 2) ∧ o = .pan p) := by
  rw [resN_ok ha hb]
  by_cases h : (lim n).length ≤ 1024
  · simp only [if_pos h]
    exact (pc_w_must0 n).mono fun o ho => .inl ⟨h, ho⟩
  · simp only [if_neg h]
    exact (pc_w_must 0 2).mono fun o ho => .inr ⟨failW 2, ⟨h, rfl⟩, (ho.resolve_left (fun h => absurd h.1 (by decide))).2⟩
theorem must_addZ {x y : Int} (hx : fitZ x) (hy : fitZ y) (ha : (x + y).natAbs = x.natAbs + y.natAbs) : PC C n_whole_must [numD (resN (lim x.natAbs) (lim y.natAbs) (.inl (val (lim x.natAbs) + val (lim y.natAbs)))).1, .int .i64 (resN (lim x.natAbs) (lim y.natAbs) (.inl (val (lim x.natAbs) + val (lim y.natAbs)))).2] (fun o => (fitZ (x + y) ∧ o = .ret (numD (x.natAbs + y.natAbs))) ∨ ∃ p, (¬ fitZ (x + y) ∧ p = failW 2) ∧ o = .pan p) := by
  rw [val_lim, val_lim, fitZ, ha]
  exact must_add hx hy
theorem must_sub {a b : Nat} (ha : (lim a).length ≤ 1024) (hb : (lim b).length ≤ 1024) (h : b ≤ a) : PC C n_whole_must [numD (resN (lim a) (lim b) (if val (lim b) ≤ val (lim a) then .inl (val (lim a) - val (lim b)) else .inr 3)).1, .int .i64 (resN (lim a) (lim b) (if val (lim b) ≤ val (lim a) then .inl (val (lim a) - val (lim b)) else .inr 3)).2] (fun o => o = .ret (numD (a - b))) := by
  rw [resN_ok ha hb, val_lim, val_lim, if_pos h]
  have : (lim (a - b)).length ≤ 1024 := Nat.le_trans (ln_mono (Nat.sub_le _ _)) ha
  simp only [if_pos this]
  exact pc_w_must0 _
theorem pc_w_sum (x y : Int) (hx : fitZ x) (hy : fitZ y) : PC C n_whole_sum [intD x, intD y] (fun o => (fitZ (x + y) ∧ o = .ret (intD (x + y))) ∨ (¬ fitZ (x + y) ∧ o = .pan (failW 2))) := by
  refine PC.run fn_whole_sum en_whole_sum rfl nt_whole_sum rfl (rs := [.cell 4 25]) (by rw [rs_whole_sum]) (by simp only [List.length_cons, List.length_nil, Nat.reduceAdd, Nat.reduceSub, List.replicate_succ, List.replicate_zero, List.cons_append, List.nil_append]; exact rfl) ?_
  refine ARun.seq ?_
  refine ARun.region ?_
  refine y_op rfl (q_boxF rfl rfl rfl rfl) ?_
  refine y_op rfl (q_boxF rfl rfl rfl rfl) ?_
  refine y_new rfl (n_alloc rfl rfl rfl rfl) ?_
  refine AOps.nil ?_
  refine ARun.seq ?_
  refine ARun.block ?_
  refine ARun.seq ?_
  refine ARun.region ?_
  refine y_op rfl (q_fldS rfl rfl rfl (by decide)) ?_
  refine y_op rfl (q_load rfl rfl rfl rfl) ?_
  refine y_op rfl (q_fldS rfl rfl rfl (by decide)) ?_
  refine y_op rfl (q_load rfl rfl rfl rfl) ?_
  refine y_op rfl (q_boolEq rfl rfl rfl) ?_
  refine y_op rfl (q_assign rfl) ?_
  refine AOps.nil ?_
  -- COND on ('t', 5)
  refine ARun.cond rfl (fun h => ?_) (fun h => ?_)
  · skip
    have hs : sgnd (decide (x < 0)) (x.natAbs + y.natAbs) = x + y := by
      have h' : decide (x < 0) = decide (y < 0) := by simpa using h
      by_cases h0 : x < 0
      · have : y < 0 := by rw [decide_eq_true h0] at h'; exact of_decide_eq_true h'.symm
        simp only [sgnd, decide_eq_true h0, cond_true]; omega
      · have : ¬ y < 0 := by rw [decide_eq_false h0] at h'; exact of_decide_eq_false h'.symm
        simp only [sgnd, decide_eq_false h0, cond_false]; omega
    have ha : (x + y).natAbs = x.natAbs + y.natAbs := by rw [← hs, sgnd_abs]
    refine ARun.seq ?_
    refine ARun.drawnP 11 (fun q => ¬ fitZ (x + y) ∧ q = failW 2) mixC rfl rfl (by kernel_rfl) (fun _ _ h => ⟨_, _, .same _, by rw [h.2]; rfl, .inr ⟨h.1, by rw [h.2]⟩⟩) ?_
    refine .op rfl (q_fldS rfl rfl rfl (by decide)) ?_
    refine .op rfl (q_load rfl rfl rfl rfl) ?_
    refine .op rfl (q_fldS rfl rfl rfl (by decide)) ?_
    refine .op rfl (q_load rfl rfl rfl rfl) ?_
    refine .op rfl (q_fldS rfl rfl rfl (by decide)) ?_
    refine .op rfl (q_load rfl rfl rfl rfl) ?_
    refine .op rfl (q_call rfl rfl (pc_nat_Add (lim x.natAbs) (lim y.natAbs) (U32_lim _) (U32_lim _))) ?_
    refine .op rfl (q_extract rfl rfl) ?_
    refine .op rfl (q_extract rfl rfl) ?_
    refine .opP rfl (g_call (g := fitZ (x + y)) (d := numD (x.natAbs + y.natAbs)) rfl rfl (must_addZ hx hy ha)) ?_
    refine .op rfl (q_call rfl rfl (pc_w_signed _ _)) ?_
    refine .nil (fun hG => ?_)
    refine y_new rfl (n_storeN rfl rfl rfl rfl rfl rfl rfl rfl (Nat.le_of_ble_eq_true rfl) rfl) ?_
    refine AOps.nil ?_
    -- RET results [('cell', 4, 25)]
    refine ARun.ret ?_
    refine ⟨_, _, _, ResR.cellA rfl rfl rfl rfl rfl rfl .nil, .cons (.same _) .nil, rfl, ?_⟩
    rw [hs]
    exact .inl ⟨hG.2, rfl⟩
  · skip
    refine ARun.seq ?_
    refine ARun.region ?_
    refine y_op rfl (q_fldS rfl rfl rfl (by decide)) ?_
    refine y_op rfl (q_load rfl rfl rfl rfl) ?_
    refine y_op rfl (q_fldS rfl rfl rfl (by decide)) ?_
    refine y_op rfl (q_load rfl rfl rfl rfl) ?_
    refine y_op rfl (q_call rfl rfl (pc_w_order x.natAbs y.natAbs hx hy)) ?_
    refine y_op rfl (q_int rfl rfl rfl) ?_
    refine y_op rfl (q_assign rfl) ?_
    refine AOps.nil ?_
    -- COND on ('t', 22)
    refine ARun.ite rfl (fun h2 => ?_) (fun h2 => ?_)
    · skip
      have hyx : y.natAbs ≤ x.natAbs := by unfold cmpI at h2; repeat' split at h2; all_goals omega
      refine ARun.seq ?_
      refine ARun.drawnP 11 (fun _ => False) mixC rfl rfl (by kernel_rfl) (fun _ _ h => h.elim) ?_
      refine .op rfl (q_fldS rfl rfl rfl (by decide)) ?_
      refine .op rfl (q_load rfl rfl rfl rfl) ?_
      refine .op rfl (q_fldS rfl rfl rfl (by decide)) ?_
      refine .op rfl (q_load rfl rfl rfl rfl) ?_
      refine .op rfl (q_fldS rfl rfl rfl (by decide)) ?_
      refine .op rfl (q_load rfl rfl rfl rfl) ?_
      refine .op rfl (q_call rfl rfl (pc_nat_Sub (lim x.natAbs) (lim y.natAbs) (U32_lim _) (U32_lim _))) ?_
      refine .op rfl (q_extract rfl rfl) ?_
      refine .op rfl (q_extract rfl rfl) ?_
      refine .op rfl (q_call rfl rfl (must_sub hx hy hyx)) ?_
      refine .op rfl (q_call rfl rfl (pc_w_signed _ _)) ?_
      refine .nil (fun hG => ?_)
      refine y_new rfl (n_storeN rfl rfl rfl rfl rfl rfl rfl rfl (Nat.le_of_ble_eq_true rfl) rfl) ?_
      refine AOps.nil ?_
      -- RET results [('cell', 4, 25)]
      refine ARun.ret ?_
      refine ⟨_, _, _, ResR.cellA rfl rfl rfl rfl rfl rfl .nil, .cons (.same _) .nil, rfl, ?_⟩
      have hs : sgnd (decide (x < 0)) (x.natAbs - y.natAbs) = x + y := by
        have h' : ¬ decide (x < 0) = decide (y < 0) := by simpa using h
        by_cases h0 : x < 0
        · have : ¬ y < 0 := fun h1 => h' (by rw [decide_eq_true h0, decide_eq_true h1])
          simp only [sgnd, decide_eq_true h0, cond_true]; omega
        · have : y < 0 := by apply Classical.byContradiction; intro h1; exact h' (by rw [decide_eq_false h0, decide_eq_false h1])
          simp only [sgnd, decide_eq_false h0, cond_false]; omega
      have ha : (x + y).natAbs = x.natAbs - y.natAbs := by rw [← hs, sgnd_abs]
      rw [hs]
      exact .inl ⟨by rw [fitZ, ha]; exact Nat.le_trans (ln_mono (Nat.sub_le _ _)) hx, rfl⟩
    · skip
      have hxy : x.natAbs ≤ y.natAbs := by unfold cmpI at h2; repeat' split at h2; all_goals omega
      refine ARun.skip ?_
      refine ARun.inBlock ?_
      refine ARun.seq ?_
      refine ARun.drawnP 11 (fun _ => False) mixC rfl rfl (by kernel_rfl) (fun _ _ h => h.elim) ?_
      refine .op rfl (q_fldS rfl rfl rfl (by decide)) ?_
      refine .op rfl (q_load rfl rfl rfl rfl) ?_
      refine .op rfl (q_fldS rfl rfl rfl (by decide)) ?_
      refine .op rfl (q_load rfl rfl rfl rfl) ?_
      refine .op rfl (q_fldS rfl rfl rfl (by decide)) ?_
      refine .op rfl (q_load rfl rfl rfl rfl) ?_
      refine .op rfl (q_call rfl rfl (pc_nat_Sub (lim y.natAbs) (lim x.natAbs) (U32_lim _) (U32_lim _))) ?_
      refine .op rfl (q_extract rfl rfl) ?_
      refine .op rfl (q_extract rfl rfl) ?_
      refine .op rfl (q_call rfl rfl (must_sub hy hx hxy)) ?_
      refine .op rfl (q_call rfl rfl (pc_w_signed _ _)) ?_
      refine .nil (fun hG => ?_)
      refine y_new rfl (n_storeN rfl rfl rfl rfl rfl rfl rfl rfl (Nat.le_of_ble_eq_true rfl) rfl) ?_
      refine AOps.nil ?_
      -- RET results [('cell', 4, 25)]
      refine ARun.ret ?_
      refine ⟨_, _, _, ResR.cellA rfl rfl rfl rfl rfl rfl .nil, .cons (.same _) .nil, rfl, ?_⟩
      have hs : sgnd (decide (y < 0)) (y.natAbs - x.natAbs) = x + y := by
        have h' : ¬ decide (x < 0) = decide (y < 0) := by simpa using h
        by_cases h0 : x < 0
        · have : ¬ y < 0 := fun h1 => h' (by rw [decide_eq_true h0, decide_eq_true h1])
          simp only [sgnd, decide_eq_false this, cond_false]; omega
        · have : y < 0 := by apply Classical.byContradiction; intro h1; exact h' (by rw [decide_eq_false h0, decide_eq_false h1])
          simp only [sgnd, decide_eq_true this, cond_true]; omega
      have ha : (x + y).natAbs = y.natAbs - x.natAbs := by rw [← hs, sgnd_abs]
      rw [hs]
      exact .inl ⟨by rw [fitZ, ha]; exact Nat.le_trans (ln_mono (Nat.sub_le _ _)) hy, rfl⟩
end Go.V


set_option synthInstance.maxSize 100000
set_option synthInstance.maxHeartbeats 2000000
namespace Go.V
open Go.RowKit Go.Proofs

theorem pc_cloneA (xs : List Nat) (hx : xs.length ≤ 35184372088832) : PC C n_slices_Clone_api_Nat_uint32 [sln .u32 xs] (fun o => o = .ret (sln .u32 xs)) := by
  refine PC.run fn_slices_Clone_api_Nat_uint32 en_slices_Clone_api_Nat_uint32 rfl nt_slices_Clone_api_Nat_uint32 rfl (rs := [.tmp 2]) (by rw [rs_slices_Clone_api_Nat_uint32]) (by simp only [List.length_cons, List.length_nil, Nat.reduceAdd, Nat.reduceSub, List.replicate_succ, List.replicate_zero, List.cons_append, List.nil_append]; exact rfl) ?_
  refine ARun.seq ?_
  refine ARun.region ?_
  refine y_op rfl (q_assign rfl) ?_
  refine AOps.nil ?_
  refine ARun.seq ?_
  refine ARun.seq ?_
  refine ARun.region ?_
  refine y_op rfl (q_move rfl) ?_
  refine y_eqNil rfl rfl rfl rfl rfl (fun b hb => ?_)
  refine AOps.nil ?_
  -- COND on ('t', 4)
  refine ARun.cond rfl (fun h => ?_) (fun h => ?_)
  · skip
    refine ARun.seq ?_
    refine ARun.region ?_
    refine y_op rfl (q_assign rfl) ?_
    refine AOps.nil ?_
    -- RET results [(2,)]
    refine ARun.ret ?_
    refine ⟨_, _, _, .tmp rfl .nil, .cons .nil .nil, rfl, ?_⟩
    rw [sl_nil (hb h)]
    rfl
  · skip
    refine ARun.skip ?_
    refine ARun.seq ?_
    refine ARun.region ?_
    refine y_new rfl (n_buildSlice rfl rfl rfl rfl rfl rfl rfl rfl rfl rfl rfl (by decide) (by decide)) ?_
    refine y_op rfl (q_move rfl) ?_
    refine y_new rfl (n_append rfl rfl (by decide) rfl rfl rfl rfl rfl rfl rfl rfl rfl rfl (by simp) (by simp; omega) (by rw [maxLen_eq]; omega) rfl) ?_
    refine y_op rfl (q_assign rfl) ?_
    refine AOps.nil ?_
    -- RET results [(2,)]
    refine ARun.ret ?_
    refine ⟨_, _, _, .tmp rfl .nil, .cons (.row rfl (pures_nts _)) .nil, rfl, ?_⟩
    simp [tupD]
end Go.V


set_option synthInstance.maxSize 100000
set_option synthInstance.maxHeartbeats 2000000
namespace Go.V
open Go.RowKit Go.Proofs

theorem pc_w_own' (z : Int) (hz : (lim z.natAbs).length ≤ 35184372088832) : PC C n_whole_own [intD z] (fun o => o = .ret (intD z)) := by
  refine PC.run fn_whole_own en_whole_own rfl nt_whole_own rfl (rs := [.cell 2 25]) (by rw [rs_whole_own]) (by simp only [List.length_cons, List.length_nil, Nat.reduceAdd, Nat.reduceSub, List.replicate_succ, List.replicate_zero, List.cons_append, List.nil_append]; exact rfl) ?_
  refine ARun.seq ?_
  refine ARun.region ?_
  refine y_op rfl (q_boxF rfl rfl rfl rfl) ?_
  refine y_new rfl (n_alloc rfl rfl rfl rfl) ?_
  refine AOps.nil ?_
  refine ARun.seq ?_
  refine ARun.drawnP 6 (fun _ => False) mixC rfl rfl (by kernel_rfl) (fun _ _ h => h.elim) ?_
  refine .op rfl (q_fldS rfl rfl rfl (by decide)) ?_
  refine .op rfl (q_load rfl rfl rfl rfl) ?_
  refine .op rfl (q_fldS rfl rfl rfl (by decide)) ?_
  refine .op rfl (q_load rfl rfl rfl rfl) ?_
  refine .op rfl (q_call rfl rfl (pc_cloneA (lim z.natAbs) hz)) ?_
  refine .op rfl (q_build rfl rfl rfl rfl rfl) ?_
  refine .nil (fun hG => ?_)
  refine y_new rfl (n_storeN rfl rfl rfl rfl rfl rfl rfl rfl (Nat.le_of_ble_eq_true rfl) rfl) ?_
  refine AOps.nil ?_
  -- RET results [('cell', 2, 25)]
  refine ARun.ret ?_
  refine ⟨_, _, _, ResR.cellA rfl rfl rfl rfl rfl rfl .nil, .cons (.same _) .nil, rfl, ?_⟩
  rfl
theorem pc_w_own (z : Int) (hz : fitZ z) : PC C n_whole_own [intD z] (fun o => o = .ret (intD z)) := pc_w_own' z (by unfold fitZ at hz; omega)
theorem must_mul {x y : Int} (hx : fitZ x) (hy : fitZ y) : PC C n_whole_must [numD (resN (lim x.natAbs) (lim y.natAbs) (.inl (val (lim x.natAbs) * val (lim y.natAbs)))).1, .int .i64 (resN (lim x.natAbs) (lim y.natAbs) (.inl (val (lim x.natAbs) * val (lim y.natAbs)))).2] (fun o => (fitZ (x * y) ∧ o = .ret (numD (x.natAbs * y.natAbs))) ∨ ∃ p, (¬ fitZ (x * y) ∧ p = failW 2) ∧ o = .pan p) := by
  rw [val_lim, val_lim, fitZ, Int.natAbs_mul]
  exact must_add hx hy
theorem pc_w_product (x y : Int) (hx : fitZ x) (hy : fitZ y) : PC C n_whole_product [intD x, intD y] (fun o => (fitZ (x * y) ∧ o = .ret (intD (x * y))) ∨ (¬ fitZ (x * y) ∧ o = .pan (failW 2))) := by
  have hs : sgnd (!(decide (x < 0) == decide (y < 0))) (x.natAbs * y.natAbs) = x * y := by
    rw [← Int.natAbs_mul]
    by_cases h1 : x < 0 <;> by_cases h2 : y < 0
    · have := Int.mul_pos_of_neg_of_neg h1 h2
      simp only [sgnd, decide_eq_true h1, decide_eq_true h2, beq_self_eq_true, Bool.not_true, cond_false]; omega
    · have := Int.mul_nonpos_of_nonpos_of_nonneg (Int.le_of_lt h1) (Int.not_lt.1 h2)
      simp only [sgnd, decide_eq_true h1, decide_eq_false h2, show (!(true == false)) = true from rfl, cond_true]; omega
    · have := Int.mul_nonpos_of_nonneg_of_nonpos (Int.not_lt.1 h1) (Int.le_of_lt h2)
      simp only [sgnd, decide_eq_false h1, decide_eq_true h2, show (!(false == true)) = true from rfl, cond_true]; omega
    · have := Int.mul_nonneg (Int.not_lt.1 h1) (Int.not_lt.1 h2)
      simp only [sgnd, decide_eq_false h1, decide_eq_false h2, beq_self_eq_true, Bool.not_true, cond_false]; omega
  refine PC.run fn_whole_product en_whole_product rfl nt_whole_product rfl (rs := [.cell 4 25]) (by rw [rs_whole_product]) (by simp only [List.length_cons, List.length_nil, Nat.reduceAdd, Nat.reduceSub, List.replicate_succ, List.replicate_zero, List.cons_append, List.nil_append]; exact rfl) ?_
  refine ARun.seq ?_
  refine ARun.region ?_
  refine y_op rfl (q_boxF rfl rfl rfl rfl) ?_
  refine y_op rfl (q_boxF rfl rfl rfl rfl) ?_
  refine y_new rfl (n_alloc rfl rfl rfl rfl) ?_
  refine AOps.nil ?_
  refine ARun.seq ?_
  refine ARun.drawnP 14 (fun q => ¬ fitZ (x * y) ∧ q = failW 2) mixC rfl rfl (by kernel_rfl) (fun _ _ h => ⟨_, _, .same _, by rw [h.2]; rfl, .inr ⟨h.1, by rw [h.2]⟩⟩) ?_
  refine .op rfl (q_fldS rfl rfl rfl (by decide)) ?_
  refine .op rfl (q_load rfl rfl rfl rfl) ?_
  refine .op rfl (q_fldS rfl rfl rfl (by decide)) ?_
  refine .op rfl (q_load rfl rfl rfl rfl) ?_
  refine .op rfl (q_boolNe rfl rfl rfl) ?_
  refine .op rfl (q_fldS rfl rfl rfl (by decide)) ?_
  refine .op rfl (q_load rfl rfl rfl rfl) ?_
  refine .op rfl (q_fldS rfl rfl rfl (by decide)) ?_
  refine .op rfl (q_load rfl rfl rfl rfl) ?_
  refine .op rfl (q_call rfl rfl (pc_nat_Mul (lim x.natAbs) (lim y.natAbs) (U32_lim _) (U32_lim _))) ?_
  refine .op rfl (q_extract rfl rfl) ?_
  refine .op rfl (q_extract rfl rfl) ?_
  refine .opP rfl (g_call (g := fitZ (x * y)) (d := numD (x.natAbs * y.natAbs)) rfl rfl (must_mul hx hy)) ?_
  refine .op rfl (q_call rfl rfl (pc_w_signed _ _)) ?_
  refine .nil (fun hG => ?_)
  refine y_new rfl (n_storeN rfl rfl rfl rfl rfl rfl rfl rfl (Nat.le_of_ble_eq_true rfl) rfl) ?_
  refine AOps.nil ?_
  -- RET results [('cell', 4, 25)]
  refine ARun.ret ?_
  refine ⟨_, _, _, ResR.cellA rfl rfl rfl rfl rfl rfl .nil, .cons (.same _) .nil, rfl, ?_⟩
  rw [hs]
  exact .inl ⟨hG.2, rfl⟩
theorem pc_w_sign (z : Int) : PC C n_whole_sign [intD z] (fun o => o = .ret (.int .i64 z.sign)) := by
  refine PC.run fn_whole_sign en_whole_sign rfl nt_whole_sign rfl (rs := [.tmp 2]) (by rw [rs_whole_sign]) (by simp only [List.length_cons, List.length_nil, Nat.reduceAdd, Nat.reduceSub, List.replicate_succ, List.replicate_zero, List.cons_append, List.nil_append]; exact rfl) ?_
  refine ARun.seq ?_
  refine ARun.region ?_
  refine y_op rfl (q_boxF rfl rfl rfl rfl) ?_
  refine y_op rfl (q_assign rfl) ?_
  refine AOps.nil ?_
  refine ARun.seq ?_
  refine ARun.block ?_
  refine ARun.seq ?_
  refine ARun.region ?_
  refine y_op rfl (q_fldS rfl rfl rfl (by decide)) ?_
  refine y_op rfl (q_load rfl rfl rfl rfl) ?_
  refine y_op rfl (q_assign rfl) ?_
  refine AOps.nil ?_
  -- COND on ('t', 3)
  refine ARun.ite rfl (fun h => ?_) (fun h => ?_)
  · skip
    refine ARun.seq ?_
    refine ARun.region ?_
    refine y_op rfl (q_assign rfl) ?_
    refine AOps.nil ?_
    -- RET results [(2,)]
    refine ARun.ret ?_
    refine ⟨_, _, _, .tmp rfl .nil, .cons (.same _) .nil, rfl, ?_⟩
    rw [Int.sign_eq_neg_one_of_neg h]; rfl
  · skip
    refine ARun.seq ?_
    refine ARun.region ?_
    refine y_op rfl (q_fldS rfl rfl rfl (by decide)) ?_
    refine y_op rfl (q_load rfl rfl rfl rfl) ?_
    refine y_op rfl (q_lenSl rfl rfl) ?_
    refine y_op rfl (q_int rfl rfl rfl) ?_
    refine y_op rfl (q_assign rfl) ?_
    refine AOps.nil ?_
    -- COND on ('t', 6)
    refine ARun.ite rfl (fun h2 => ?_) (fun h2 => ?_)
    · skip
      refine ARun.seq ?_
      refine ARun.region ?_
      refine y_op rfl (q_assign rfl) ?_
      refine AOps.nil ?_
      -- RET results [(2,)]
      refine ARun.ret ?_
      refine ⟨_, _, _, .tmp rfl .nil, .cons (.same _) .nil, rfl, ?_⟩
      have : z.natAbs ≠ 0 := ln_pos.1 (by omega)
      rw [Int.sign_eq_one_of_pos (by omega)]; rfl
    · skip
      refine ARun.skip ?_
      refine ARun.inBlock ?_
      refine ARun.seq ?_
      refine ARun.region ?_
      refine y_op rfl (q_assign rfl) ?_
      refine AOps.nil ?_
      -- RET results [(2,)]
      refine ARun.ret ?_
      refine ⟨_, _, _, .tmp rfl .nil, .cons (.same _) .nil, rfl, ?_⟩
      have : z.natAbs = 0 := by
        apply Classical.byContradiction
        intro hn
        have := ln_pos.2 hn
        omega
      rw [show z = 0 by omega]; rfl
/-- How two integers compare. -/
def cmpZ (x y : Int) : Int := if x < y then -1 else if x = y then 0 else 1
theorem pc_w_cmp (x y : Int) (hx : fitZ x) (hy : fitZ y) : PC C n_whole_cmp [intD x, intD y] (fun o => o = .ret (.int .i64 (cmpZ x y))) := by
  refine PC.run fn_whole_cmp en_whole_cmp rfl nt_whole_cmp rfl (rs := [.tmp 4]) (by rw [rs_whole_cmp]) (by simp only [List.length_cons, List.length_nil, Nat.reduceAdd, Nat.reduceSub, List.replicate_succ, List.replicate_zero, List.cons_append, List.nil_append]; exact rfl) ?_
  refine ARun.seq ?_
  refine ARun.region ?_
  refine y_op rfl (q_boxF rfl rfl rfl rfl) ?_
  refine y_op rfl (q_boxF rfl rfl rfl rfl) ?_
  refine y_op rfl (q_assign rfl) ?_
  refine AOps.nil ?_
  refine ARun.seq ?_
  refine ARun.block ?_
  refine ARun.seq ?_
  refine ARun.region ?_
  refine y_op rfl (q_fldS rfl rfl rfl (by decide)) ?_
  refine y_op rfl (q_load rfl rfl rfl rfl) ?_
  refine y_op rfl (q_fldS rfl rfl rfl (by decide)) ?_
  refine y_op rfl (q_load rfl rfl rfl rfl) ?_
  refine y_op rfl (q_boolNe rfl rfl rfl) ?_
  refine y_op rfl (q_move rfl) ?_
  -- guard: slot 11
  refine AOps.bool 11 rfl (fun h1 => ?_) (fun h1 => ?_)
  · skip
    have h1' : ¬ decide (x < 0) = decide (y < 0) := by simpa using h1
    refine y_op rfl (q_fldS rfl rfl rfl (by decide)) ?_
    refine y_op rfl (q_load rfl rfl rfl rfl) ?_
    refine y_op rfl (q_pick rfl rfl rfl rfl) ?_
    refine y_op rfl (q_assign rfl) ?_
    refine AOps.nil ?_
    -- COND on ('t', 5)
    refine ARun.cond rfl (fun h2 => ?_) (fun h2 => ?_)
    · skip
      refine ARun.seq ?_
      refine ARun.region ?_
      refine y_op rfl (q_assign rfl) ?_
      refine AOps.nil ?_
      -- RET results [(4,)]
      refine ARun.ret ?_
      refine ⟨_, _, _, .tmp rfl .nil, .cons (.same _) .nil, rfl, ?_⟩
      have h2 : x < 0 := of_decide_eq_true h2
      have hy : ¬ y < 0 := fun h => h1' (by rw [decide_eq_true h2, decide_eq_true h])
      unfold cmpZ; rw [if_pos (by omega)]; rfl
    · skip
      have h2 : ¬ x < 0 := of_decide_eq_false h2
      have hy : y < 0 := by apply Classical.byContradiction; intro h; exact h1' (by rw [decide_eq_false h2, decide_eq_false h])
      refine ARun.seq ?_
      refine ARun.region ?_
      refine y_op rfl (q_fldS rfl rfl rfl (by decide)) ?_
      refine y_op rfl (q_load rfl rfl rfl rfl) ?_
      refine y_op rfl (q_fldS rfl rfl rfl (by decide)) ?_
      refine y_op rfl (q_load rfl rfl rfl rfl) ?_
      refine y_op rfl (q_boolNe rfl rfl rfl) ?_
      refine y_op rfl (q_assign rfl) ?_
      refine AOps.nil ?_
      -- COND on ('t', 15)
      refine ARun.cond rfl (fun h3 => ?_) (fun h3 => ?_)
      · skip
        refine ARun.seq ?_
        refine ARun.region ?_
        refine y_op rfl (q_assign rfl) ?_
        refine AOps.nil ?_
        -- RET results [(4,)]
        refine ARun.ret ?_
        refine ⟨_, _, _, .tmp rfl .nil, .cons (.same _) .nil, rfl, ?_⟩
        unfold cmpZ; rw [if_neg (by omega), if_neg (by omega)]; rfl
      · skip
        rw [h1] at h3; cases h3
  · skip
    have h1' : decide (x < 0) = decide (y < 0) := by simpa using h1
    refine y_skip rfl ?_
    refine y_skip rfl ?_
    refine y_op rfl (q_pick rfl rfl rfl rfl) ?_
    refine y_op rfl (q_assign rfl) ?_
    refine AOps.nil ?_
    -- COND on ('t', 5)
    refine ARun.condF rfl ?_
    refine ARun.seq ?_
    refine ARun.region ?_
    refine y_op rfl (q_fldS rfl rfl rfl (by decide)) ?_
    refine y_op rfl (q_load rfl rfl rfl rfl) ?_
    refine y_op rfl (q_fldS rfl rfl rfl (by decide)) ?_
    refine y_op rfl (q_load rfl rfl rfl rfl) ?_
    refine y_op rfl (q_boolNe rfl rfl rfl) ?_
    refine y_op rfl (q_assign rfl) ?_
    refine AOps.nil ?_
    -- COND on ('t', 15)
    refine ARun.cond rfl (fun h3 => ?_) (fun h3 => ?_)
    · skip
      rw [h1] at h3; cases h3
    · skip
      refine ARun.seq ?_
      refine ARun.region ?_
      refine y_op rfl (q_fldS rfl rfl rfl (by decide)) ?_
      refine y_op rfl (q_load rfl rfl rfl rfl) ?_
      refine y_op rfl (q_assign rfl) ?_
      refine AOps.nil ?_
      -- COND on ('t', 21)
      refine ARun.ite rfl (fun h4 => ?_) (fun h4 => ?_)
      · skip
        refine ARun.seq ?_
        refine ARun.region ?_
        refine y_op rfl (q_fldS rfl rfl rfl (by decide)) ?_
        refine y_op rfl (q_load rfl rfl rfl rfl) ?_
        refine y_op rfl (q_fldS rfl rfl rfl (by decide)) ?_
        refine y_op rfl (q_load rfl rfl rfl rfl) ?_
        refine y_op rfl (q_call rfl rfl (pc_w_order y.natAbs x.natAbs hy hx)) ?_
        refine y_op rfl (q_assign rfl) ?_
        refine AOps.nil ?_
        -- RET results [(4,)]
        refine ARun.ret ?_
        refine ⟨_, _, _, .tmp rfl .nil, .cons (.same _) .nil, rfl, ?_⟩
        have hy : y < 0 := by rw [decide_eq_true h4] at h1'; exact of_decide_eq_true h1'.symm
        have : cmpI y.natAbs x.natAbs = cmpZ x y := by unfold cmpI cmpZ; repeat' split; all_goals omega
        rw [this]; rfl
      · skip
        refine ARun.skip ?_
        refine ARun.inBlock ?_
        refine ARun.seq ?_
        refine ARun.region ?_
        refine y_op rfl (q_fldS rfl rfl rfl (by decide)) ?_
        refine y_op rfl (q_load rfl rfl rfl rfl) ?_
        refine y_op rfl (q_fldS rfl rfl rfl (by decide)) ?_
        refine y_op rfl (q_load rfl rfl rfl rfl) ?_
        refine y_op rfl (q_call rfl rfl (pc_w_order x.natAbs y.natAbs hx hy)) ?_
        refine y_op rfl (q_assign rfl) ?_
        refine AOps.nil ?_
        -- RET results [(4,)]
        refine ARun.ret ?_
        refine ⟨_, _, _, .tmp rfl .nil, .cons (.same _) .nil, rfl, ?_⟩
        have hy : ¬ y < 0 := by rw [decide_eq_false h4] at h1'; exact of_decide_eq_false h1'.symm
        have : cmpI x.natAbs y.natAbs = cmpZ x y := by unfold cmpI cmpZ; repeat' split; all_goals omega
        rw [this]; rfl
end Go.V


set_option synthInstance.maxSize 100000
set_option synthInstance.maxHeartbeats 2000000
namespace Go.V
open Go.RowKit Go.Proofs

/-- Integers one behind the other. -/
def cellsI : List (Bool × List Nat) → List D
  | [] => []
  | p :: l => .bool p.1 :: sln .u32 p.2 :: cellsI l
theorem cellsI_len : ∀ l : List (Bool × List Nat), (cellsI l).length = l.length * 2
  | [] => rfl
  | p :: l => by simp only [cellsI, List.length_cons, cellsI_len l]; omega
theorem cellsI_drop : ∀ (l : List (Bool × List Nat)) (i : Nat), (cellsI l).drop (i * 2) = cellsI (l.drop i)
  | l, 0 => by simp
  | [], i + 1 => by simp [cellsI]
  | p :: l, i + 1 => by
    rw [show (i + 1) * 2 = i * 2 + 1 + 1 by omega]
    simp only [cellsI, List.drop_succ_cons]
    exact cellsI_drop l i
/-- Where the first one stands of which something holds. -/
def idxI (p : Bool × List Nat → Bool) : List (Bool × List Nat) → Nat → Int
  | [], _ => -1
  | d :: ds, i => bif p d then (i : Int) else idxI p ds (i + 1)
theorem idxI_any (p : Bool × List Nat → Bool) : ∀ (ds : List (Bool × List Nat)) (i : Nat), decide (idxI p ds i ≥ 0) = ds.any p
  | [], _ => by simp [idxI]
  | d :: ds, i => by
    simp only [idxI, List.any_cons]
    have ih := idxI_any p ds (i + 1)
    by_cases h : p d = true
    · simp [h]
    · simp only [Bool.not_eq_true] at h
      simp only [h, cond_false, Bool.false_or]
      exact ih
theorem pc_IndexI (l : List (Bool × List Nat)) (n : Nat) (hn : l.length = n) (f : FuncId) (p : Bool × List Nat → Bool) (hf : ∀ d ∈ l, PC C f [intA d.1 d.2] (fun o => o = .ret (.bool (p d)))) : PC C n_slices_IndexFunc_api_Int_api_Int [.sl n (cellsI l), .clos f []] (fun o => o = .ret (.int .i64 (idxI p l 0))) := by
  refine PC.run fn_slices_IndexFunc_api_Int_api_Int en_slices_IndexFunc_api_Int_api_Int rfl nt_slices_IndexFunc_api_Int_api_Int rfl (rs := [.tmp 4]) (by rw [rs_slices_IndexFunc_api_Int_api_Int]) (by simp only [List.length_cons, List.length_nil, Nat.reduceAdd, Nat.reduceSub, List.replicate_succ, List.replicate_zero, List.cons_append, List.nil_append]; exact rfl) ?_
  refine ARun.lenle 0 rfl (fun hlen => ?_)
  rw [maxLen_eq] at hlen
  refine ARun.seq ?_
  refine ARun.region ?_
  refine y_op rfl (q_assign rfl) ?_
  refine AOps.nil ?_
  refine ARun.seq ?_
  refine ARun.seq ?_
  refine ARun.region ?_
  refine y_op rfl (q_move rfl) ?_
  refine y_op rfl (q_lenSl rfl rfl) ?_
  refine y_op rfl (q_move rfl) ?_
  refine AOps.nil ?_
  refine ARun.block ?_
  -- LOOP writes [4, 5, 8, 9, 10, 11, 12, 13, 14, 15, 16, 17, 18]
  refine ARun.loopI (S := Nat) (fun i : Nat => [(4, .any), (5, .any), (9, .any), (10, .any), (11, .any), (12, .any), (13, .any), (14, .any), (15, .any), (16, .any), (17, .any), (18, .any), (8, .int .i64 (i : Int))]) (fun i : Nat => []) (fun i : Nat => i ≤ n ∧ idxI p (l.drop i) i = idxI p l 0) (fun i : Nat => n - i) (0) ?_ ?_ ?_ ?_
  · exact ⟨Nat.zero_le _, rfl⟩
  · (repeat' first | exact envLe_nil | apply envLe_any | apply envLe_same)
  · rfl
  rintro i hinv ih
  obtain ⟨hi, he⟩ := hinv
  refine ARun.seq ?_
  refine ARun.region ?_
  refine y_op rfl (q_int rfl rfl rfl) ?_
  refine AOps.nil ?_
  refine ARun.seq ?_
  -- COND on ('t', 9)
  refine ARun.ite rfl (fun h => ?_) (fun h => ?_)
  · skip
    have hlt : i < l.length := by omega
    have hdr : l.drop i = l[i] :: l.drop (i + 1) := List.drop_eq_getElem_cons hlt
    have hcd := cellsI_drop l i
    rw [hdr] at hcd
    have hx : idxI p (l.drop i) i = bif p l[i] then (i : Int) else idxI p (l.drop (i + 1)) (i + 1) := by rw [hdr]; rfl
    refine ARun.skip ?_
    refine ARun.seq ?_
    refine ARun.block ?_
    refine ARun.seq ?_
    refine ARun.region ?_
    refine y_op rfl (q_move rfl) ?_
    refine y_op rfl (q_assign rfl) ?_
    refine AOps.nil ?_
    refine ARun.seq ?_
    refine ARun.region ?_
    refine y_op rfl (q_move rfl) ?_
    refine y_op rfl (q_move rfl) ?_
    refine y_op rfl (q_move rfl) ?_
    refine y_op rfl (q_idxSl rfl rfl rfl rfl (by omega) (by omega) (fun e => by have := cellsI_len l; rw [e] at this; simp at this; omega) hcd) ?_
    refine y_op rfl (q_loadAgg (ds := [.bool l[i].1, sln .u32 l[i].2]) rfl rfl rfl rfl rfl) ?_
    refine y_op rfl (q_call rfl rfl (hf l[i] (List.getElem_mem hlt))) ?_
    refine AOps.nil ?_
    -- COND on ('t', 16)
    refine ARun.cond rfl (fun hp => ?_) (fun hp => ?_)
    · skip
      refine ARun.seq ?_
      refine ARun.region ?_
      refine y_op rfl (q_move rfl) ?_
      refine y_op rfl (q_assign rfl) ?_
      refine AOps.nil ?_
      -- RET results [(4,)]
      refine ARun.ret ?_
      refine ⟨_, _, _, .tmp rfl .nil, .cons (.same _) .nil, rfl, ?_⟩
      rw [← he, hx, hp]
      rfl
    · skip
      refine ARun.skip ?_
      refine ARun.inBlock ?_
      refine ARun.region ?_
      refine y_op rfl (q_add rfl rfl (nadd1_i64 (by omega))) ?_
      refine y_op rfl (q_move rfl) ?_
      refine AOps.nil ?_
      -- LOOP's end
      refine ARun.again (ih ((i + 1)) ?_ ?_) ?_ ?_
      · exact ⟨by omega, by rw [← he, hx, hp]; rfl⟩
      · omega
      · (repeat' first | exact envLe_nil | apply envLe_any | apply envLe_same)
      · rfl
  · skip
    refine ARun.exit rfl ?_
    refine ARun.seq ?_
    refine ARun.region ?_
    refine y_op rfl (q_assign rfl) ?_
    refine AOps.nil ?_
    -- RET results [(4,)]
    refine ARun.ret ?_
    refine ⟨_, _, _, .tmp rfl .nil, .cons (.same _) .nil, rfl, ?_⟩
    rw [← he, List.drop_of_length_le (by omega)]
    rfl
theorem pc_ContainsI (l : List (Bool × List Nat)) (n : Nat) (hn : l.length = n) (f : FuncId) (p : Bool × List Nat → Bool) (hf : ∀ d ∈ l, PC C f [intA d.1 d.2] (fun o => o = .ret (.bool (p d)))) : PC C n_slices_ContainsFunc_api_Int_api_Int [.sl n (cellsI l), .clos f []] (fun o => o = .ret (.bool (l.any p))) := by
  refine PC.run fn_slices_ContainsFunc_api_Int_api_Int en_slices_ContainsFunc_api_Int_api_Int rfl nt_slices_ContainsFunc_api_Int_api_Int rfl (rs := [.tmp 4]) (by rw [rs_slices_ContainsFunc_api_Int_api_Int]) (by simp only [List.length_cons, List.length_nil, Nat.reduceAdd, Nat.reduceSub, List.replicate_succ, List.replicate_zero, List.cons_append, List.nil_append]; exact rfl) ?_
  refine ARun.seq ?_
  refine ARun.region ?_
  refine y_op rfl (q_assign rfl) ?_
  refine AOps.nil ?_
  refine ARun.seq ?_
  refine ARun.region ?_
  refine y_op rfl (q_move rfl) ?_
  refine y_op rfl (q_move rfl) ?_
  refine y_op rfl (q_call rfl rfl (pc_IndexI l n hn f p hf)) ?_
  refine y_op rfl (q_int rfl rfl rfl) ?_
  refine y_op rfl (q_assign rfl) ?_
  refine AOps.nil ?_
  -- RET results [(4,)]
  refine ARun.ret ?_
  refine ⟨_, _, _, .tmp rfl .nil, .cons (.same _) .nil, rfl, ?_⟩
  rw [idxI_any]; rfl

/-- What is an integer. -/
def okI (d : Bool × List Nat) : Bool := okB d.2 && (!d.1 || decide (0 < d.2.length))
theorem pc_w_Valid (d : Bool × List Nat) : PC C n_whole_Valid [intA d.1 d.2] (fun o => o = .ret (.bool (okI d))) := by
  obtain ⟨b, xs⟩ := d
  refine PC.run fn_whole_Valid en_whole_Valid rfl nt_whole_Valid rfl (rs := [.tmp 2]) (by rw [rs_whole_Valid]) (by simp only [List.length_cons, List.length_nil, Nat.reduceAdd, Nat.reduceSub, List.replicate_succ, List.replicate_zero, List.cons_append, List.nil_append]; exact rfl) ?_
  refine ARun.seq ?_
  refine ARun.region ?_
  refine y_op rfl (q_boxF rfl rfl rfl rfl) ?_
  refine y_op rfl (q_assign rfl) ?_
  refine AOps.nil ?_
  refine ARun.seq ?_
  refine ARun.region ?_
  refine y_op rfl (q_fldS rfl rfl rfl (by decide)) ?_
  refine y_op rfl (q_load rfl rfl rfl rfl) ?_
  refine y_op rfl (q_call rfl rfl (pc_nat_Valid xs (okNatDec xs))) ?_
  refine y_op rfl (q_move rfl) ?_
  -- guard: slot 6
  refine AOps.bool 6 rfl (fun h1 => ?_) (fun h1 => ?_)
  · skip
    have h1 : okB xs = true := h1
    refine y_op rfl (q_fldS rfl rfl rfl (by decide)) ?_
    refine y_op rfl (q_load rfl rfl rfl rfl) ?_
    refine y_op rfl (q_not rfl) ?_
    refine y_op rfl (q_move rfl) ?_
    -- guard: slot 10
    refine AOps.bool 10 rfl (fun h2 => ?_) (fun h2 => ?_)
    · skip
      have h2 : b = false := by simpa using h2
      refine y_skip rfl ?_
      refine y_skip rfl ?_
      refine y_skip rfl ?_
      refine y_skip rfl ?_
      refine y_op rfl (q_pick rfl rfl rfl rfl) ?_
      refine y_op rfl (q_pick rfl rfl rfl rfl) ?_
      refine y_op rfl (q_assign rfl) ?_
      refine AOps.nil ?_
      -- RET results [(2,)]
      refine ARun.ret ?_
      refine ⟨_, _, _, .tmp rfl .nil, .cons (.same _) .nil, rfl, ?_⟩
      unfold okI; rw [h1, h2]; rfl
    · skip
      have h2 : b = true := by simpa using h2
      refine y_op rfl (q_fldS rfl rfl rfl (by decide)) ?_
      refine y_op rfl (q_load rfl rfl rfl rfl) ?_
      refine y_op rfl (q_lenSl rfl rfl) ?_
      refine y_op rfl (q_int rfl rfl rfl) ?_
      refine y_op rfl (q_pick rfl rfl rfl rfl) ?_
      refine y_op rfl (q_pick rfl rfl rfl rfl) ?_
      refine y_op rfl (q_assign rfl) ?_
      refine AOps.nil ?_
      -- RET results [(2,)]
      refine ARun.ret ?_
      refine ⟨_, _, _, .tmp rfl .nil, .cons (.same _) .nil, rfl, ?_⟩
      unfold okI; rw [h1, h2]
      have : decide ((xs.length : Int) > 0) = decide (0 < xs.length) := decide_eq_decide.2 (by omega)
      simp only [this, Bool.not_true, Bool.false_or, Bool.true_and, cond_true, cond_false]
      rfl
  · skip
    have h1 : okB xs = false := h1
    refine y_skip rfl ?_
    refine y_skip rfl ?_
    refine y_skip rfl ?_
    refine y_skip rfl ?_
    refine y_skip rfl ?_
    refine y_skip rfl ?_
    refine y_skip rfl ?_
    refine y_skip rfl ?_
    refine y_skip rfl ?_
    refine y_op rfl (q_pick rfl rfl rfl rfl) ?_
    refine y_op rfl (q_assign rfl) ?_
    refine AOps.nil ?_
    -- RET results [(2,)]
    refine ARun.ret ?_
    refine ⟨_, _, _, .tmp rfl .nil, .cons (.same _) .nil, rfl, ?_⟩
    unfold okI; rw [h1]; rfl
theorem pc_w_args_1 (d : Bool × List Nat) : PC C n_whole_args_1 [intA d.1 d.2] (fun o => o = .ret (.bool (!okI d))) := by
  refine PC.run fn_whole_args_1 en_whole_args_1 rfl nt_whole_args_1 rfl (rs := [.tmp 2]) (by rw [rs_whole_args_1]) (by simp only [List.length_cons, List.length_nil, Nat.reduceAdd, Nat.reduceSub, List.replicate_succ, List.replicate_zero, List.cons_append, List.nil_append]; exact rfl) ?_
  refine ARun.seq ?_
  refine ARun.region ?_
  refine y_op rfl (q_boxF rfl rfl rfl rfl) ?_
  refine y_op rfl (q_assign rfl) ?_
  refine AOps.nil ?_
  refine ARun.seq ?_
  refine ARun.region ?_
  refine y_op rfl (q_loadAgg rfl rfl rfl rfl rfl) ?_
  refine y_op rfl (q_call rfl rfl (pc_w_Valid d)) ?_
  refine y_op rfl (q_not rfl) ?_
  refine y_op rfl (q_assign rfl) ?_
  refine AOps.nil ?_
  -- RET results [(2,)]
  refine ARun.ret ?_
  refine ⟨_, _, _, .tmp rfl .nil, .cons (.same _) .nil, rfl, ?_⟩
  rfl
theorem pc_w_args (l : List (Bool × List Nat)) (n : Nat) (hn : l.length = n) : PC C n_whole_args [.sl n (cellsI l)] (fun o => (l.all okI = true ∧ o = .ret (.tup [])) ∨ (l.all okI = false ∧ o = .pan (failW 1))) := by
  have he : l.any (fun d => !okI d) = !l.all okI := by
    clear hn
    induction l with
    | nil => rfl
    | cons x l ih => simp only [List.any_cons, List.all_cons, ih, Bool.not_and]
  refine PC.run fn_whole_args en_whole_args rfl nt_whole_args rfl (rs := []) (by rw [rs_whole_args]) (by simp only [List.length_cons, List.length_nil, Nat.reduceAdd, Nat.reduceSub, List.replicate_succ, List.replicate_zero, List.cons_append, List.nil_append]; exact rfl) ?_
  refine ARun.region ?_
  refine y_op rfl (q_move rfl) ?_
  refine y_op rfl (q_call rfl rfl (pc_ContainsI l n hn n_whole_args_1 (fun d => !okI d) (fun d _ => pc_w_args_1 d))) ?_
  refine y_op rfl (q_not rfl) ?_
  refine y_gop rfl (g_call rfl rfl (PC.gp (pc_w_need _ 1))) (fun hg => ?_) (fun q hq => by obtain ⟨hq, rfl⟩ := hq; exact ⟨_, _, .same _, rfl, .inr ⟨by rw [he, Bool.not_not] at hq; exact hq, rfl⟩⟩)
  refine AOps.nil ?_
  -- END of the function
  refine ARun.nil ?_
  refine ⟨_, _, _, .nil, .nil, rfl, ?_⟩
  exact .inl ⟨by rw [he, Bool.not_not] at hg; exact hg, rfl⟩
end Go.V


set_option synthInstance.maxSize 100000
set_option synthInstance.maxHeartbeats 2000000
namespace Go.V
open Go.RowKit Go.Proofs

abbrev failO (e : Int) : Option AObj := some ⟨[.int .i64 e], t_whole_failure, 1, true, none⟩
abbrev errO (e : Int) : Option AObj := some ⟨[.int .i64 e], t_api_Errno, 1, true, none⟩
theorem dcw_ret (H : Heap) (i : Nat) : DC C n_whole_caught H [.ptr i 0] .returning (fun m' H' => m' = .returning ∧ H' = H) := by
  refine DC.of_run1 fn_whole_caught en_whole_caught rfl nt_whole_caught (by rw [rs_whole_caught]) (fun _ h => by cases h) (by simp only [List.length_cons, List.length_nil, Nat.reduceAdd, Nat.reduceSub, List.replicate_succ, List.replicate_zero, List.cons_append, List.nil_append, recD, envPut, List.set_cons_succ, List.set_cons_zero]; exact rfl) ?_
  refine ARun.block ?_
  refine ARun.seq ?_
  refine ARun.region ?_
  refine y_op rfl (q_ifEqNil (by kernel_rfl) rfl) ?_
  refine AOps.nil ?_
  -- COND on ('t', 7)
  refine ARun.condT rfl ?_
  refine ARun.region ?_
  refine y_op rfl (q_assign rfl) ?_
  refine AOps.nil ?_
  refine ARun.inBlock ?_
  -- END of the function
  refine ARun.nil ?_
  exact ⟨rfl, rfl, rfl⟩
theorem dcw_pan (H : Heap) (i : Nat) (e0 e : Int) (h : H[i]? = some (errO e0)) : DC C n_whole_caught H [.ptr i 0] (.panicking (failW e)) (fun m' H' => m' = .recovered (failW e) ∧ H' = ((H ++ [failO e]).set i (errO e) : Heap)) := by
  have hi : i < H.length := (List.getElem?_eq_some_iff.1 h).1
  have hl : (H ++ [failO e])[i]? = some (errO e0) := by rw [List.getElem?_append_left hi]; exact h
  have hn : ∀ o : AObj, (H ++ [some o])[H.length]? = some (some o) := fun o => by simp
  have hs : ∀ o o' : AObj, (H ++ [some o]).set H.length (some o') = H ++ [some o'] := fun o o' => by
    rw [List.set_append_right _ _ (Nat.le_refl _), Nat.sub_self]; rfl
  refine DC.of_run1 fn_whole_caught en_whole_caught rfl nt_whole_caught (by rw [rs_whole_caught]) (fun _ h => by cases h) (by simp only [List.length_cons, List.length_nil, Nat.reduceAdd, Nat.reduceSub, List.replicate_succ, List.replicate_zero, List.cons_append, List.nil_append, recD, envPut, List.set_cons_succ, List.set_cons_zero]; exact rfl) ?_
  refine ARun.block ?_
  refine ARun.seq ?_
  refine ARun.region ?_
  refine y_op rfl (q_ifEq (by kernel_rfl) rfl) ?_
  refine AOps.nil ?_
  -- COND on ('t', 7)
  refine ARun.condF rfl ?_
  refine ARun.seq ?_
  refine ARun.region ?_
  refine y_op rfl (q_assertOk rfl rfl rfl) ?_
  refine y_op rfl (q_extract rfl rfl) ?_
  refine y_op rfl (q_extract rfl rfl) ?_
  refine AOps.nil ?_
  -- COND on ('t', 9)
  refine ARun.condT rfl ?_
  refine ARun.seq ?_
  refine ARun.region ?_
  refine y_new rfl (n_alloc rfl rfl rfl rfl) ?_
  refine y_new rfl (n_storeN rfl rfl rfl rfl rfl rfl (hn _) rfl (Nat.le_of_ble_eq_true rfl) rfl) (AOps.hp (hs _ _) ?_)
  refine AOps.nil ?_
  refine ARun.region ?_
  refine y_op rfl (q_move rfl) ?_
  refine y_op rfl (q_fldP rfl rfl rfl (by decide)) ?_
  refine y_op rfl (q_loadP rfl rfl rfl (hn _) rfl) ?_
  refine y_op rfl (q_nil rfl rfl) ?_
  refine y_new rfl (n_store1 rfl rfl rfl rfl hl rfl (Nat.le_of_ble_eq_true rfl) rfl) ?_
  refine AOps.nil ?_
  refine ARun.inBlock ?_
  -- END of the function
  refine ARun.nil ?_
  exact ⟨rfl, rfl, rfl⟩
end Go.V


set_option synthInstance.maxSize 100000
set_option synthInstance.maxHeartbeats 2000000
namespace Go.V
open Go.RowKit Go.Proofs

theorem intD_zero : intD 0 = .agg [.bool false, .sl 0 []] := by
  have : numD 0 = .sl 0 [] := by rw [numD, lim_zero]; rfl
  show D.agg [.bool (decide ((0 : Int) < 0)), numD 0] = _
  rw [this]; rfl
theorem fz_int0 {H : Heap} : Fz H (.agg [.bool false, .nilsl]) (intD 0) [] := by
  rw [intD_zero]; exact .agg (.cons (.same _) (.cons .nil .nil))
end Go.V


set_option synthInstance.maxSize 100000
set_option synthInstance.maxHeartbeats 2000000
namespace Go.V
open Go.RowKit Go.Proofs

/-- The integer that an input is. -/
def valI (d : Bool × List Nat) : Int := sgnd d.1 (val d.2)
theorem okI_int {d : Bool × List Nat} (hu : U32 d.2) (h : okI d = true) : ∃ z, d = (decide (z < 0), lim z.natAbs) ∧ fitZ z := by
  obtain ⟨b, xs⟩ := d
  simp only [okI, Bool.and_eq_true, Bool.or_eq_true, Bool.not_eq_true'] at h
  obtain ⟨a, ha, hl⟩ := okNat_lim hu h.1
  simp only at ha
  subst ha
  refine ⟨sgnd b a, ?_, ?_⟩
  · rw [sgnd_abs, sgnd_neg]
    congr 1
    rcases h.2 with h | h
    · rw [h]; rfl
    · have : 0 < a := Nat.pos_of_ne_zero (ln_pos.1 (of_decide_eq_true h))
      rw [decide_eq_true this, Bool.and_true]
  · rw [fitZ, sgnd_abs]; exact hl
theorem valI_int (z : Int) : valI (decide (z < 0), lim z.natAbs) = z := by
  unfold valI
  simp only [val_lim]
  by_cases h : z < 0
  · simp only [sgnd, decide_eq_true h, cond_true]; omega
  · simp only [sgnd, decide_eq_false h, cond_false]; omega
theorem fitZ_neg {z : Int} (h : fitZ z) : fitZ (-z) := by unfold fitZ at *; rw [Int.natAbs_neg]; exact h

theorem okI2 {d1 d2 : Bool × List Nat} (h1 : U32 d1.2) (h2 : U32 d2.2) (h : [d1, d2].all okI = true) : ∃ x y, d1 = (decide (x < 0), lim x.natAbs) ∧ fitZ x ∧ d2 = (decide (y < 0), lim y.natAbs) ∧ fitZ y := by
  simp only [List.all_cons, List.all_nil, Bool.and_true, Bool.and_eq_true] at h
  obtain ⟨x, e1, f1⟩ := okI_int h1 h.1
  obtain ⟨y, e2, f2⟩ := okI_int h2 h.2
  exact ⟨x, y, e1, f1, e2, f2⟩
end Go.V


set_option synthInstance.maxSize 100000
set_option synthInstance.maxHeartbeats 2000000
namespace Go.V
open Go.RowKit Go.Proofs

abbrev kkeys : List D := [.int .i64 1, .int .i64 2, .int .i64 3, .int .i64 4]
abbrev kvals : List D := [.agg [.clos n_whole_kinds_1 []], .agg [.clos n_whole_kinds_2 []], .agg [.clos n_whole_kinds_3 []], .agg [.clos n_whole_kinds_4 []]]
theorem pc_w_kinds : PC C n_whole_kinds [] (fun o => o = .ret (.mapv kkeys kvals)) := by
  refine PC.run fn_whole_kinds en_whole_kinds rfl nt_whole_kinds rfl (rs := [.tmp 0]) (by rw [rs_whole_kinds]) (by simp only [List.length_cons, List.length_nil, Nat.reduceAdd, Nat.reduceSub, List.replicate_succ, List.replicate_zero, List.cons_append, List.nil_append]; exact rfl) ?_
  refine ARun.seq ?_
  refine ARun.region ?_
  refine y_op rfl (q_assignAny) ?_
  refine AOps.nil ?_
  refine ARun.seq ?_
  refine ARun.region ?_
  refine y_new rfl (n_makeMap (kt := 3) (et := 105) (by kernel_rfl) (.inl rfl)) ?_
  refine y_op rfl (q_build rfl rfl rfl rfl rfl) ?_
  refine y_new rfl (n_mapInsert (kt := 3) (et := 105) (.inl rfl) (by kernel_rfl) (by kernel_rfl) rfl rfl rfl rfl rfl) ?_
  refine y_op rfl (q_build rfl rfl rfl rfl rfl) ?_
  refine y_new rfl (n_mapInsert (kt := 3) (et := 105) (.inl rfl) (by kernel_rfl) (by kernel_rfl) rfl rfl rfl rfl rfl) ?_
  refine y_op rfl (q_build rfl rfl rfl rfl rfl) ?_
  refine y_new rfl (n_mapInsert (kt := 3) (et := 105) (.inl rfl) (by kernel_rfl) (by kernel_rfl) rfl rfl rfl rfl rfl) ?_
  refine y_op rfl (q_build rfl rfl rfl rfl rfl) ?_
  refine y_new rfl (n_mapInsert (kt := 3) (et := 105) (.inl rfl) (by kernel_rfl) (by kernel_rfl) rfl rfl rfl rfl rfl) ?_
  refine y_op rfl (q_move rfl) ?_
  refine y_op rfl (q_assign rfl) ?_
  refine AOps.nil ?_
  -- RET results [(0,)]
  have hz : Fz [mapO (kkeys.zip kvals)] (.mapp 0) (.mapv kkeys kvals) [0] := Fz.map (es := kkeys.zip kvals) rfl rfl rfl rfl
  refine ARun.ret ?_
  refine ⟨_, _, _, .tmp rfl .nil, .cons hz .nil, rfl, ?_⟩
  rfl
/-- What stands at a way of division. -/
def kindF (how : Int) : Option FuncId :=
  if how = 1 then some n_whole_kinds_1 else if how = 2 then some n_whole_kinds_2 else if how = 3 then some n_whole_kinds_3 else if how = 4 then some n_whole_kinds_4 else none
theorem find_kind (how : Int) : findI .i64 how (kkeys.zip kvals) = some ((kindF how).map fun f => .agg [.clos f []]) := by
  unfold kindF
  by_cases h1 : how = 1
  · subst h1; rfl
  · by_cases h2 : how = 2
    · subst h2; rfl
    · by_cases h3 : how = 3
      · subst h3; rfl
      · by_cases h4 : how = 4
        · subst h4; rfl
        · have e : ∀ k : Int, how ≠ k → (how == k) = false := fun k h => beq_eq_false_iff_ne.2 h
          simp only [kkeys, kvals, List.zip_cons_cons, List.zip_nil_right, findI, e 1 h1, e 2 h2, e 3 h3, e 4 h4, decide_true, cond_true, cond_false, if_neg h1, if_neg h2, if_neg h3, if_neg h4, Option.map_none]

/-- Whether the quotient moves away from 0. -/
def awayZ (how : Int) (q r a b : Int) : Bool :=
  if how = 2 then !(decide (a < 0) == decide (b < 0)) else if how = 3 then decide (a < 0) else if how = 4 then decide (b.natAbs < 2 * r.natAbs) || (decide (2 * r.natAbs = b.natAbs) && decide (q.natAbs % 2 = 1)) else false
theorem pc_w_k1 (q r a b : Int) : PC C n_whole_kinds_1 [intD q, intD r, intD a, intD b] (fun o => o = .ret (.bool (awayZ 1 q r a b))) := by
  refine PC.run fn_whole_kinds_1 en_whole_kinds_1 rfl nt_whole_kinds_1 rfl (rs := [.tmp 8]) (by rw [rs_whole_kinds_1]) (by simp only [List.length_cons, List.length_nil, Nat.reduceAdd, Nat.reduceSub, List.replicate_succ, List.replicate_zero, List.cons_append, List.nil_append]; exact rfl) ?_
  refine ARun.seq ?_
  refine ARun.region ?_
  refine y_op rfl (q_boxF rfl rfl rfl rfl) ?_
  refine y_op rfl (q_boxF rfl rfl rfl rfl) ?_
  refine y_op rfl (q_boxF rfl rfl rfl rfl) ?_
  refine y_op rfl (q_boxF rfl rfl rfl rfl) ?_
  refine y_op rfl (q_assign rfl) ?_
  refine AOps.nil ?_
  refine ARun.seq ?_
  refine ARun.region ?_
  refine y_op rfl (q_assign rfl) ?_
  refine AOps.nil ?_
  -- RET results [(8,)]
  refine ARun.ret ?_
  refine ⟨_, _, _, .tmp rfl .nil, .cons (.same _) .nil, rfl, ?_⟩
  rfl
theorem pc_w_k2 (q r a b : Int) : PC C n_whole_kinds_2 [intD q, intD r, intD a, intD b] (fun o => o = .ret (.bool (awayZ 2 q r a b))) := by
  refine PC.run fn_whole_kinds_2 en_whole_kinds_2 rfl nt_whole_kinds_2 rfl (rs := [.tmp 8]) (by rw [rs_whole_kinds_2]) (by simp only [List.length_cons, List.length_nil, Nat.reduceAdd, Nat.reduceSub, List.replicate_succ, List.replicate_zero, List.cons_append, List.nil_append]; exact rfl) ?_
  refine ARun.seq ?_
  refine ARun.region ?_
  refine y_op rfl (q_boxF rfl rfl rfl rfl) ?_
  refine y_op rfl (q_boxF rfl rfl rfl rfl) ?_
  refine y_op rfl (q_boxF rfl rfl rfl rfl) ?_
  refine y_op rfl (q_boxF rfl rfl rfl rfl) ?_
  refine y_op rfl (q_assign rfl) ?_
  refine AOps.nil ?_
  refine ARun.seq ?_
  refine ARun.region ?_
  refine y_op rfl (q_fldS rfl rfl rfl (by decide)) ?_
  refine y_op rfl (q_load rfl rfl rfl rfl) ?_
  refine y_op rfl (q_fldS rfl rfl rfl (by decide)) ?_
  refine y_op rfl (q_load rfl rfl rfl rfl) ?_
  refine y_op rfl (q_boolNe rfl rfl rfl) ?_
  refine y_op rfl (q_assign rfl) ?_
  refine AOps.nil ?_
  -- RET results [(8,)]
  refine ARun.ret ?_
  refine ⟨_, _, _, .tmp rfl .nil, .cons (.same _) .nil, rfl, ?_⟩
  rfl
theorem pc_w_k3 (q r a b : Int) : PC C n_whole_kinds_3 [intD q, intD r, intD a, intD b] (fun o => o = .ret (.bool (awayZ 3 q r a b))) := by
  refine PC.run fn_whole_kinds_3 en_whole_kinds_3 rfl nt_whole_kinds_3 rfl (rs := [.tmp 8]) (by rw [rs_whole_kinds_3]) (by simp only [List.length_cons, List.length_nil, Nat.reduceAdd, Nat.reduceSub, List.replicate_succ, List.replicate_zero, List.cons_append, List.nil_append]; exact rfl) ?_
  refine ARun.seq ?_
  refine ARun.region ?_
  refine y_op rfl (q_boxF rfl rfl rfl rfl) ?_
  refine y_op rfl (q_boxF rfl rfl rfl rfl) ?_
  refine y_op rfl (q_boxF rfl rfl rfl rfl) ?_
  refine y_op rfl (q_boxF rfl rfl rfl rfl) ?_
  refine y_op rfl (q_assign rfl) ?_
  refine AOps.nil ?_
  refine ARun.seq ?_
  refine ARun.region ?_
  refine y_op rfl (q_fldS rfl rfl rfl (by decide)) ?_
  refine y_op rfl (q_load rfl rfl rfl rfl) ?_
  refine y_op rfl (q_assign rfl) ?_
  refine AOps.nil ?_
  -- RET results [(8,)]
  refine ARun.ret ?_
  refine ⟨_, _, _, .tmp rfl .nil, .cons (.same _) .nil, rfl, ?_⟩
  rfl
end Go.V


set_option synthInstance.maxSize 100000
set_option synthInstance.maxHeartbeats 2000000
namespace Go.V
open Go.RowKit Go.Proofs

theorem numD_one : D.sl 1 [.int .u32 1] = numD 1 := by rw [numD, lim_one]; rfl
theorem parity (n : Nat) (h : 0 < (lim n).length) : dig n 0 % 2 = n % 2 := by
  rw [dig, Nat.pow_zero, Nat.div_one]
  exact Nat.mod_mod_of_dvd n ⟨2147483648, rfl⟩
theorem pc_w_k4 (q r a b : Int) (hr : fitZ r) (hb : fitZ b) (hrb : r.natAbs < b.natAbs) : PC C n_whole_kinds_4 [intD q, intD r, intD a, intD b] (fun o => o = .ret (.bool (awayZ 4 q r a b))) := by
  have fin : ∀ c : Bool, c = (decide (b.natAbs < 2 * r.natAbs) || (decide (2 * r.natAbs = b.natAbs) && decide (q.natAbs % 2 = 1))) → c = awayZ 4 q r a b := fun c h => h
  have h1 : ∀ k : Int, k = cmpI r.natAbs (b.natAbs - r.natAbs) → (decide (k > 0) = decide (b.natAbs < 2 * r.natAbs)) ∧ (decide (k = 0) = decide (2 * r.natAbs = b.natAbs)) := by
    intro k hk
    subst hk
    unfold cmpI
    constructor <;> apply decide_eq_decide.2 <;> repeat' split
    all_goals omega
  refine PC.run fn_whole_kinds_4 en_whole_kinds_4 rfl nt_whole_kinds_4 rfl (rs := [.tmp 8]) (by rw [rs_whole_kinds_4]) (by simp only [List.length_cons, List.length_nil, Nat.reduceAdd, Nat.reduceSub, List.replicate_succ, List.replicate_zero, List.cons_append, List.nil_append]; exact rfl) ?_
  refine ARun.seq ?_
  refine ARun.region ?_
  refine y_op rfl (q_boxF rfl rfl rfl rfl) ?_
  refine y_op rfl (q_boxF rfl rfl rfl rfl) ?_
  refine y_op rfl (q_boxF rfl rfl rfl rfl) ?_
  refine y_op rfl (q_boxF rfl rfl rfl rfl) ?_
  refine y_op rfl (q_assign rfl) ?_
  refine AOps.nil ?_
  refine ARun.seq ?_
  refine ARun.drawnP 11 (fun _ => False) mixC rfl rfl (by kernel_rfl) (fun _ _ h => h.elim) ?_
  refine .op rfl (q_fldS rfl rfl rfl (by decide)) ?_
  refine .op rfl (q_load rfl rfl rfl rfl) ?_
  refine .op rfl (q_fldS rfl rfl rfl (by decide)) ?_
  refine .op rfl (q_load rfl rfl rfl rfl) ?_
  refine .op rfl (q_fldS rfl rfl rfl (by decide)) ?_
  refine .op rfl (q_load rfl rfl rfl rfl) ?_
  refine .op rfl (q_call rfl rfl (pc_nat_Sub (lim b.natAbs) (lim r.natAbs) (U32_lim _) (U32_lim _))) ?_
  refine .op rfl (q_extract rfl rfl) ?_
  refine .op rfl (q_extract rfl rfl) ?_
  refine .op rfl (q_call rfl rfl (must_sub hb hr (Nat.le_of_lt hrb))) ?_
  refine .op rfl (q_call rfl rfl (pc_w_order r.natAbs (b.natAbs - r.natAbs) hr (Nat.le_trans (ln_mono (Nat.sub_le _ _)) hb))) ?_
  refine .nil (fun hG => ?_)
  refine y_op rfl (q_assign rfl) ?_
  refine AOps.nil ?_
  refine ARun.seq ?_
  refine ARun.region ?_
  refine y_op rfl (q_move rfl) ?_
  refine y_op rfl (q_int rfl rfl rfl) ?_
  refine y_op rfl (q_move rfl) ?_
  -- guard: slot 23
  obtain ⟨e1, e2⟩ := h1 _ rfl
  refine AOps.bool 23 rfl (fun g1 => ?_) (fun g1 => ?_)
  · skip
    refine y_skip rfl ?_
    refine y_skip rfl ?_
    refine y_skip rfl ?_
    refine y_skip rfl ?_
    refine y_skip rfl ?_
    refine y_skip rfl ?_
    refine y_skip rfl ?_
    refine y_skip rfl ?_
    refine y_skip rfl ?_
    refine y_skip rfl ?_
    refine y_skip rfl ?_
    refine y_skip rfl ?_
    refine y_skip rfl ?_
    refine y_skip rfl ?_
    refine y_skip rfl ?_
    refine y_skip rfl ?_
    refine y_op rfl (q_pick rfl rfl rfl rfl) ?_
    refine y_op rfl (q_assign rfl) ?_
    refine AOps.nil ?_
    -- RET results [(8,)]
    refine ARun.ret ?_
    refine ⟨_, _, _, .tmp rfl .nil, .cons (.same _) .nil, rfl, ?_⟩
    rw [← fin true (by rw [← e1, g1]; rfl)]
    rfl
  · skip
    refine y_op rfl (q_move rfl) ?_
    refine y_op rfl (q_int rfl rfl rfl) ?_
    refine y_op rfl (q_move rfl) ?_
    -- guard: slot 26
    refine AOps.bool 26 rfl (fun g2 => ?_) (fun g2 => ?_)
    · skip
      have g2' : cmpI r.natAbs (b.natAbs - r.natAbs) = 0 := by simpa using g2
      refine y_op rfl (q_fldS rfl rfl rfl (by decide)) ?_
      refine y_op rfl (q_load rfl rfl rfl rfl) ?_
      refine y_op rfl (q_lenSl rfl rfl) ?_
      refine y_op rfl (q_int rfl rfl rfl) ?_
      refine y_op rfl (q_pick rfl rfl rfl rfl) ?_
      refine y_op rfl (q_move rfl) ?_
      -- guard: slot 32
      refine AOps.bool 32 rfl (fun g3 => ?_) (fun g3 => ?_)
      · skip
        have g3' : 0 < (lim q.natAbs).length := by have := of_decide_eq_true g3; omega
        refine y_op rfl (q_fldS rfl rfl rfl (by decide)) ?_
        refine y_op rfl (q_load rfl rfl rfl rfl) ?_
        refine y_op rfl (q_idxSl (i := (0 : Nat)) rfl rfl rfl rfl (by decide) (by omega) (nts_ne g3') (drop_nat rfl)) ?_
        refine y_op rfl (q_load rfl rfl rfl (lim_load g3')) ?_
        refine y_op rfl (q_rem rfl rfl (by decide) rfl) ?_
        refine y_op rfl (q_int rfl rfl rfl) ?_
        refine y_op rfl (q_pick rfl rfl rfl rfl) ?_
        refine y_op rfl (q_pick rfl rfl rfl rfl) ?_
        refine y_op rfl (q_assign rfl) ?_
        refine AOps.nil ?_
        -- RET results [(8,)]
        refine ARun.ret ?_
        refine ⟨_, _, _, .tmp rfl .nil, .cons (.same _) .nil, rfl, ?_⟩
        rw [← fin (decide (q.natAbs % 2 = 1)) (by rw [← e1, ← e2, g1, decide_eq_true g2']; rfl)]
        have : (((dig q.natAbs 0 : Nat) : Int).tmod 2 == 1) = decide (q.natAbs % 2 = 1) := by
          rw [← parity _ g3', show ((dig q.natAbs 0 : Nat) : Int).tmod 2 = ((dig q.natAbs 0 % 2 : Nat) : Int) from rfl]
          by_cases h : dig q.natAbs 0 % 2 = 1
          · rw [h]; rfl
          · rw [decide_eq_false h]; exact beq_eq_false_iff_ne.2 (by omega)
        simp only [this, cond_true, cond_false]
        rfl
      · skip
        have g3' : q.natAbs = 0 := by
          apply Classical.byContradiction
          intro h
          have := ln_pos.2 h
          have g := of_decide_eq_false g3
          omega
        refine y_skip rfl ?_
        refine y_skip rfl ?_
        refine y_skip rfl ?_
        refine y_skip rfl ?_
        refine y_skip rfl ?_
        refine y_skip rfl ?_
        refine y_op rfl (q_pick rfl rfl rfl rfl) ?_
        refine y_op rfl (q_pick rfl rfl rfl rfl) ?_
        refine y_op rfl (q_assign rfl) ?_
        refine AOps.nil ?_
        -- RET results [(8,)]
        refine ARun.ret ?_
        refine ⟨_, _, _, .tmp rfl .nil, .cons (.same _) .nil, rfl, ?_⟩
        rw [← fin false (by rw [← e1, ← e2, g1, decide_eq_true g2', g3']; rfl)]
        rfl
    · skip
      have g2' : ¬ cmpI r.natAbs (b.natAbs - r.natAbs) = 0 := by simpa using g2
      refine y_skip rfl ?_
      refine y_skip rfl ?_
      refine y_skip rfl ?_
      refine y_skip rfl ?_
      refine y_op rfl (q_pick rfl rfl rfl rfl) ?_
      refine y_op rfl (q_move rfl) ?_
      -- guard: slot 32
      refine y_skip rfl ?_
      refine y_skip rfl ?_
      refine y_skip rfl ?_
      refine y_skip rfl ?_
      refine y_skip rfl ?_
      refine y_skip rfl ?_
      refine y_op rfl (q_pick rfl rfl rfl rfl) ?_
      refine y_op rfl (q_pick rfl rfl rfl rfl) ?_
      refine y_op rfl (q_assign rfl) ?_
      refine AOps.nil ?_
      -- RET results [(8,)]
      refine ARun.ret ?_
      refine ⟨_, _, _, .tmp rfl .nil, .cons (.same _) .nil, rfl, ?_⟩
      rw [← fin false (by rw [← e1, ← e2, g1, decide_eq_false g2']; rfl)]
      rfl
end Go.V
