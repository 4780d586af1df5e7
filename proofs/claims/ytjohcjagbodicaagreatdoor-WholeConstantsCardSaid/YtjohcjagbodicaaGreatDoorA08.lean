/- A part of the proof: abstract values, rules for the steps of the program's form, and contracts of its functions, each proved; no condition. -/
import Derived.Test.YtjohcjagbodicaaGreatDoorA07
import Derived.Laws.BytesString
import Derived.Recover
set_option linter.unusedVariables false
set_option linter.unusedSimpArgs false
/- RANGES OVER FUNCTIONS: the statement; the call of yield; a round. -/
namespace Go.V
open Go.RowKit
def QRound (id : Nat) (K : Option Code → Heap → Prop) : Post := ⟨some id, fun x _ H df => df = [] ∧ match x with
  | .norm => K none H
  | .ret => K (some .ret) H
  | .exit i => K (some (.exit i)) H
  | .pan _ => False⟩
theorem run_getLoopB {P : Program} {w : World} {l : Nat} {r : Loop} (h : w.heap[l]? = some (.loop r)) : (Instr.getLoop l).run P w = .ok r w := by
  simp [Instr.getLoop, getObj, Sem.run, Sem.run_bind, h, Result.andThen]
theorem run_setObjB {P : Program} {w : World} {l : Nat} {r : Loop} (o : Obj) (h : w.heap[l]? = some (.loop r)) : (setObj l o).run P w = .ok () (putB w l o) := by simp [setObj, Sem.run, h, putB]
theorem run_beginRoundB {P : Program} {w : World} {l : Nat} {r : Loop} (h : w.heap[l]? = some (.loop r)) (hr : r.state = .ready) : (Instr.beginRound l).run P w = .ok () (putB w l (.loop { r with state := .busy })) := by
  simp [Instr.beginRound, Sem.run_bind, run_getLoopB h, run_setObjB _ h, Result.andThen, hr]
theorem run_endRoundB {P : Program} {w : World} {l : Nat} {r : Loop} (jump : Option Code) (h : w.heap[l]? = some (.loop r)) : (Instr.endRound l jump).run P w = .ok (.bool jump.isNone) (putB w l (.loop { r with state := if jump.isNone then .ready else .done, pending := jump })) := by
  simp [Instr.endRound, Sem.run_bind, run_getLoopB h, run_setObjB _ h, Result.andThen]
theorem run_endLoopB {P : Program} {w : World} {l : Nat} {r : Loop} (h : w.heap[l]? = some (.loop r)) (hb : r.state ≠ .busy) : (Instr.endLoop l).run P w = .ok r.pending (putB w l (.loop { r with state := .exhausted })) := by
  simp [Instr.endLoop, Sem.run_bind, run_getLoopB h, run_setObjB _ h, Result.andThen, hb]
theorem run_yieldB {P : Program} {w : World} {l : Nat} {r : Loop} {args : Array Value} (h : w.heap[l]? = some (.loop r)) (hs : args.size = r.params.size) :
    (Instr.yield l args).run P w = .ok (.round l r.fn ((r.params.zip args).foldl (fun tmps (t, a) => tmps.setIfInBounds t a) r.tmps) r.assign r.body) w := by
  simp [Instr.yield, Sem.run_bind, run_getLoopB h, Result.andThen, hs]
theorem run_enterLoopB {P : Program} (w : World) (fn : FuncId) (tmps : Array Value) (ps : Array Tmp) (assign body : Code) :
    (Instr.enterLoop fn tmps ps assign body none).run P w =
      .ok (w.heap.size + 1, [{ target := .collected w.heap.size, args := #[] }])
        ((w.alloc (.deferred (some []))).alloc (.loop { state := .ready, pending := none, fn, tmps, params := ps, assign, body, defers := w.heap.size })) := by
  unfold Instr.enterLoop
  simp only [Sem.run_bind, run_newObj_alloc, Result.andThen, Sem.run_pure, World.size_alloc]
abbrev loopO (st : LSt) (ps : Array Tmp) (asg bd : Code) (envL : List D) : Option AObj := some ⟨[], 0, 0, true, some (.loop st ps asg bd envL)⟩
abbrev defsO : Option AObj := some ⟨[], 0, 0, true, some .defs⟩
section
variable {C : Ctx} {Q : Post} {ops : Array Oper} {rest : List Oper} {k : List Item} {env : List D} {H : Heap} {df : List ADef} {id : Nat} {ps : Array Tmp} {asg bd : Code} {envL : List D}
theorem SR.loopSt {L0 : Nat → Prop} {w : World} {μ : List Nat} {st st' : LSt} {b : Nat} {r r' : Loop} (hs : SR C L0 w μ H) (ho : H[id]? = some (loopO st ps asg bd envL)) (hb : μ[id]? = some b) (hw : w.heap[b]? = some (.loop r)) (h1 : r'.params = r.params) (h2 : r'.assign = r.assign) (h3 : r'.body = r.body) (h4 : r'.tmps = r.tmps) (h5 : LStR st' r') :
    SR C L0 (putB w b (.loop r')) μ (H.set id (loopO st' ps asg bd envL)) ∧ Evo w (putB w b (.loop r')) μ μ H (H.set id (loopO st' ps asg bd envL)) := by
  obtain ⟨_, r0, k1, k2, k3, k4, k5, k6⟩ := (hs.obj id _ b ho hb).spec rfl
  rw [hw] at k1
  injection k1 with k1
  injection k1 with k1
  subst k1
  refine hs.putS (x' := loopO st' ps asg bd envL) ho hb rfl (by simp) fun o' e => ?_
  injection e with e
  subst e
  exact ⟨rfl, rfl, rfl, .of_spec rfl ⟨rfl, r', putB_same (hs.block_lt ho hb), h1.trans k2, h2.trans k3, h3.trans k4, by rw [h4]; exact k5, h5⟩⟩
theorem ARun.beginRound (hq : Q.rd = some id) (ho : H[id]? = some (loopO .ready ps asg bd envL)) (h : ARun C Q k env (H.set id (loopO .busy ps asg bd envL)) df) : ARun C Q (.beginRound :: k) env H df := by
  refine ⟨fun L0 w0 μ0 H0 w μ a hs hv hd he b cs hrd => ?_⟩
  have hrd' := hrd
  rw [hq] at hrd'
  obtain ⟨l, hl, hbr⟩ := hrd'
  obtain ⟨_, r, k1, k2, k3, k4, k5, k6, k7⟩ := (hs.obj id _ l ho hl).spec rfl
  have hst := stepR_beginRound (P := C.P) (b := b) (a := a) (k := k) (cs := cs) hbr (run_beginRoundB k1 k6)
  obtain ⟨s1, e1⟩ := hs.loopSt (st' := .busy) (r' := { r with state := .busy }) ho hl k1 rfl rfl rfl rfl ⟨rfl, k7⟩
  have st := e1.step L0
  obtain ⟨e, a', w', h3, h4⟩ := h.out L0 w0 μ0 H0 _ μ a s1 (VRs.step st hv) (DfR.step st hd) (he.trans e1) b cs hrd
  exact ⟨e, a', w', h3, .of_steps (.one hst) h4⟩
def setL (envL : List D) : List (Nat × D) → List D
  | [] => envL
  | (t, d) :: l => setL (envL.set t d) l
theorem VRs_setL {w : World} {L : Nat → Prop} {μ : List Nat} {H : Heap} : ∀ {ps : List Tmp} {ds : List D} {vs : List Value} {envL : List D} {tmps : Array Value}, VRs w L μ H ds vs → VRs w L μ H envL tmps.toList →
    VRs w L μ H (setL envL (ps.zip ds)) ((ps.zip vs).foldl (fun (t : Array Value) (p : Tmp × Value) => t.setIfInBounds p.1 p.2) tmps).toList
  | [], ds, vs, envL, tmps, _, h => by simpa [setL] using h
  | p :: ps, [], vs, envL, tmps, h1, h => by simp only [VRs] at h1; subst h1; simpa [setL] using h
  | p :: ps, d :: ds, vs, envL, tmps, h1, h => by
    simp only [VRs] at h1
    obtain ⟨v, us, rfl, h2, h3⟩ := h1
    simp only [List.zip_cons_cons, setL, List.foldl_cons]
    refine VRs_setL h3 ?_
    rw [Array.toList_setIfInBounds]
    exact VRs_set h2 h
variable {dst : Option Tmp} {ty : TypeId} {pos : String} {aft : Array Edge} {gd : Option (Nat × Bool)} {x : Operand}
theorem AOps.yield {ds envR : List D} {args : List Operand} {tys : Array TypeId} {ps : List Tmp} (K : Option Code → Heap → Prop) (hg : gOk ops.toList env gd = some true) (hx : evO C env x = some (.yld id)) (ha : evOs C env args = some ds) (ho : H[id]? = some (loopO .ready ps.toArray asg bd envL)) (hl : ds.length = ps.length) (hR : setL envL (ps.zip ds) = envR)
    (hb : ARun C (QRound id K) [.code asg, .beginRound, .code bd] envR H []) (hbusy : ∀ j H', K j H' → H'[id]? = some (loopO .busy ps.toArray asg bd envL))
    (hk : ∀ H', K none H' → AOps C Q ops rest k (envPut env dst (.bool true)) (H'.set id (loopO .ready ps.toArray asg bd envL)) df)
    (hst : ∀ c H', K (some c) H' → AOps C Q ops rest k (envPut env dst (.bool false)) (H'.set id (loopO (.done c) ps.toArray asg bd envL)) df) :
    AOps C Q ops (⟨dst, .call ⟨.value x, args.toArray, tys⟩, ty, pos, aft, gd⟩ :: rest) k env H df := by
  subst hR
  refine ⟨fun i hi => ⟨fun L0 w0 μ0 H0 w μ a hs hv hd he b cs hrd => ?_⟩⟩
  obtain ⟨o, hoo⟩ : ∃ o : Oper, o = ⟨dst, .call ⟨.value x, args.toArray, tys⟩, ty, pos, aft, gd⟩ := ⟨_, rfl⟩
  have hod : o.dst = dst := by rw [hoo]
  rw [← hoo] at hi ⊢
  have hop : ops[i]? = some o := by have := drop_get hi; simpa using this
  have hw := gOk_ok (C := C) hv (o := o) (by rw [hoo]; exact hg)
  have ex := evO_ok hs hv hx
  have ea := evOs_ok hs hv ha
  simp only [VR] at ex
  obtain ⟨l, hml, ex⟩ := ex
  obtain ⟨_, r, k1, k2, k3, k4, k5, k6, k7⟩ := (hs.obj id _ l ho hml).spec rfl
  have hal : (args.map a.eval).length = ps.length := by rw [VRs_length ea]; exact hl
  have hy := run_yieldB (P := C.P) (args := (args.map a.eval).toArray) k1 (by rw [k2]; simpa using hal)
  rw [k2, k3, k4] at hy
  have hz : (ps.toArray.zip (args.map a.eval).toArray).foldl (fun tmps (t, a) => tmps.setIfInBounds t a) r.tmps = (ps.zip (args.map a.eval)).foldl (fun (t : Array Value) (p : Tmp × Value) => t.setIfInBounds p.1 p.2) r.tmps := by
    simp [List.zip_toArray]
  rw [hz] at hy
  have hrun : (o.semAt b.roundOf a.eval).run C.P w = .ok (.round l r.fn ((ps.zip (args.map a.eval)).foldl (fun (t : Array Value) (p : Tmp × Value) => t.setIfInBounds p.1 p.2) r.tmps) asg bd) w := by
    rw [Oper.semAt_eq _ _ _ (by rw [hoo]; intro c h; cases h), hoo]
    have h1 : (args.toArray.map a.eval) = (args.map a.eval).toArray := by simp
    simp only [execOp, resolve, h1, ex, Deferred.ofValue, Sem.run_bind, Sem.run_pure, Result.andThen_ok, invoke]
    have h2 : (#[] ++ (args.map a.eval).toArray : Array Value) = (args.map a.eval).toArray := by simp
    rw [h2]
    exact hy
  rw [List.length_cons, List.range'_succ]
  have hgop := stepGR_op (P := C.P) (b := b) (k := k) (cs := cs) (w := w) (rest := List.range' (i + 1) rest.length) hop hw
  let b2 : Frame := { (default : Frame) with fn := r.fn, kind := .normal, roundOf := some l }
  let a2 : Act := { tmps := (ps.zip (args.map a.eval)).foldl (fun (t : Array Value) (p : Tmp × Value) => t.setIfInBounds p.1 p.2) r.tmps, defers := [] }
  have henter : step C.P (lone (b.atR a (.inRegion ops (i :: List.range' (i + 1) rest.length) :: k)) cs w) =
      .next (lone (b2.atR a2 [.code asg, .beginRound, .code bd]) (b.atR a (.inRegion ops (i :: List.range' (i + 1) rest.length) :: k) :: cs) w) :=
    step_lone_go (by rw [hgop]; simp [stepG.apply, hrun, Frame.atR, Frame.round, b2, a2])
  obtain ⟨e, a', w', ⟨xx, env', H', μ', df', ⟨hdf, hK⟩, s1, hv1, hd1, hx1, e1⟩, harr⟩ := hb.out L0 w μ H w μ a2 hs (VRs_setL ea k5) rfl (Evo.refl _ _ _) b2 (b.atR a (.inRegion ops (i :: List.range' (i + 1) rest.length) :: k) :: cs) ⟨l, hml, rfl⟩
  have hml' := e1.map _ _ hml
  have fin : ∀ (jump : Option Code) (st' : LSt), K jump H' → (∀ r' : Loop, LStR .busy r' → LStR st' { r' with state := if jump.isNone then .ready else .done, pending := jump }) →
      AOps C Q ops rest k (envPut env dst (.bool jump.isNone)) (H'.set id (loopO st' ps.toArray asg bd envL)) df →
      ∃ w2, (Instr.endRound l jump).run C.P w' = .ok (.bool jump.isNone) w2 ∧ ∃ e a' w'', QRel C L0 w0 μ0 H0 Q e a' w'' ∧ ArrR C.P (lone ((b.atR a (.inRegion ops (i :: List.range' (i + 1) rest.length) :: k)).finish (.bool jump.isNone)) cs w2) b cs e a' w'' := by
    intro jump st' hj hst' hrest
    have hbz := hbusy _ _ hj
    obtain ⟨_, r', q1, q2, q3, q4, q5, q6⟩ := (s1.obj id _ l hbz hml').spec rfl
    obtain ⟨s2, e2⟩ := s1.loopSt (st' := st') (r' := { r' with state := if jump.isNone then .ready else .done, pending := jump }) hbz hml' q1 rfl rfl rfl rfl (hst' r' q6)
    refine ⟨_, run_endRoundB jump q1, ?_⟩
    have e12 := e1.trans e2
    have st := e12.step L0
    rw [Frame.finish_atR, hop, Option.bind_some, hod]
    obtain ⟨e, a', w', h3, h4⟩ := (hrest.out (i + 1) (drop_next hi)).out L0 w0 μ0 H0 _ μ' (a.put dst (.bool jump.isNone)) s2 (VRs_put (VRs.step st hv) (by simp only [VR])) (by rw [put_defers]; exact DfR.step st hd) (he.trans e12) b cs (hrd.step e12.map)
    exact ⟨e, a', w', h3, h4⟩
  cases xx with
  | norm =>
    have hx2 : e = .normal := hx1
    subst hx2
    obtain ⟨w2, r1, e2, a3, w3, h3, h4⟩ := fin none .ready hK (fun r' h => ⟨rfl, rfl⟩) (hk H' hK)
    exact ⟨e2, a3, w3, h3, .of_steps (.head henter (Steps.trans harr (.one (stepR_round_end rfl rfl r1)))) h4⟩
  | ret =>
    have hx2 : e = .ret := hx1
    subst hx2
    obtain ⟨kk, hst2⟩ := harr
    obtain ⟨w2, r1, e2, a3, w3, h3, h4⟩ := fin (some .ret) (.done .ret) hK (fun r' h => ⟨rfl, rfl⟩) (hst _ H' hK)
    exact ⟨e2, a3, w3, h3, .of_steps (.head henter (Steps.trans hst2 (.one (stepR_round_ret rfl rfl r1)))) h4⟩
  | exit j =>
    have hx2 : e = .exit j := hx1
    subst hx2
    obtain ⟨kk, hkk, hst2⟩ := harr
    obtain ⟨w2, r1, e2, a3, w3, h3, h4⟩ := fin (some (.exit j)) (.done (.exit j)) hK (fun r' h => ⟨rfl, rfl⟩) (hst _ H' hK)
    exact ⟨e2, a3, w3, h3, .of_steps (.head henter (Steps.trans hst2 (.one (stepR_round_exit rfl rfl hkk r1)))) h4⟩
  | pan d => exact hK.elim
theorem step_rangeF {P : Program} {b : Frame} {a : Act} {k : List Item} {cs : List Frame} {w : World} {g : Operand} {ps : Array Tmp} {assign body : Code} {l : Nat} {mark : List Deferred} {w₁ w₂ : World} {f : FuncId} {lb args : Array Value}
    (he : (Instr.enterLoop b.fn a.tmps ps assign body b.roundOf).run P w = .ok (l, mark) w₁) (hg : a.eval g = .func (.func f) #[] lb) (hf : (callFunc f (#[.func (.yield l) #[] #[]] ++ lb)).run P w₁ = .ok (.enter f args) w₂) :
    step P (lone (b.atR a (.code (.rangeFunc g ps assign body) :: k)) cs w) =
      .next (lone (Frame.enter P f args .normal) (b.atR { a with defers := mark ++ a.defers } (.inRangeFunc l :: k) :: cs) w₂) :=
  step_lone_go (by
    have hev := Frame.eval_atR b { a with defers := mark ++ a.defers } (.inRangeFunc l :: k)
    simp only [Frame.atR] at hev
    have hg' : ({ tmps := a.tmps, defers := mark ++ a.defers } : Act).eval g = .func (.func f) #[] lb := by rw [← hg]; cases g <;> rfl
    have hc : ∀ w, Sem.run P (resolve ({ tmps := a.tmps, defers := mark ++ a.defers } : Act).eval { callee := .value g, args := #[.const (.func (.yield l) #[] #[])], argTypes := #[] } 0) w = .ok { target := .fn (.func f) lb, args := #[.func (.yield l) #[] #[]] } w := by
      intro w
      simp only [resolve, hg']
      simp [Deferred.ofValue, Act.eval]
    have hi : (invoke (.fn (.func f) lb) #[.func (.yield l) #[] #[]]).run P w₁ = .ok (.enter f args) w₂ := by simpa [invoke] using hf
    simp [stepG, stepG.exec, Frame.atR, Sem.runT_eq, he, GStep.bare_after, stepG.apply, hev, Sem.run_bind, hc, hi, Result.andThen])
theorem step_endRangeF {P : Program} {b : Frame} {a : Act} {k : List Item} {cs : List Frame} {w w' : World} {l : Nat} {jump : Option Code} (h : (Instr.endLoop l).run P w = .ok jump w') :
    step P (lone (b.atR a (.endRangeFunc l :: k)) cs w) = .next (lone (b.atR a ((jump.map Item.code).toList ++ k)) cs w') :=
  step_lone_go (by simp [stepG, stepG.exec, Frame.atR, Sem.runT_eq, h, GStep.bare_after])
theorem ARun.rangeFn {g : Operand} {gf : FuncId} {caps : List D} {n : Nat} {R : Out → Heap → Prop} (hrn : Q.rd = none) (hx : evO C env g = some (.clos gf caps)) (hn : H.length = n)
    (hc : HC C gf (H ++ [defsO] ++ [loopO .ready ps asg bd env]) (.yld (n + 1) :: caps) R)
    (hk : ∀ d H2, R (.ret d) H2 → ∃ st, H2[n + 1]? = some (loopO st ps asg bd env) ∧ match st with
      | .ready => ARun C Q k env (H2.set (n + 1) none) (.col n :: df)
      | .done c => ARun C Q (.code c :: k) env (H2.set (n + 1) none) (.col n :: df)
      | .busy => False)
    (hp : ∀ d H2, R (.pan d) H2 → Q (.pan d) env H2 (.col n :: df)) : ARun C Q (.code (.rangeFunc g ps asg bd) :: k) env H df := by
  subst hn
  refine ⟨fun L0 w0 μ0 H0 w μ a hs hv hd he b cs hrd => ?_⟩
  have hro : b.roundOf = none := by rw [hrn] at hrd; exact hrd
  have ex := evO_ok hs hv hx
  simp only [VR] at ex
  obtain ⟨cvs, ex, ec⟩ := ex
  obtain ⟨s1, e1⟩ := hs.pushO (ob := .deferred (some [])) (o := ⟨[], 0, 0, true, some .defs⟩) (.of_spec rfl ⟨rfl, heap_alloc_new w _⟩)
  have st1 := e1.step L0
  have hlen1 : (μ ++ [w.heap.size]).length = H.length + 1 := by simp [hs.len]
  obtain ⟨rec, hrec⟩ : ∃ rec : Loop, rec = { state := .ready, pending := none, fn := b.fn, tmps := a.tmps, params := ps, assign := asg, body := bd, defers := w.heap.size } := ⟨_, rfl⟩
  obtain ⟨s2, e2⟩ := s1.pushO (ob := .loop rec) (o := ⟨[], 0, 0, true, some (.loop .ready ps asg bd env)⟩) (.of_spec rfl ⟨rfl, rec, heap_alloc_new _ _, by rw [hrec], by rw [hrec], by rw [hrec], by rw [hrec]; exact VRs.step st1 hv, by rw [hrec]; exact ⟨rfl, rfl⟩⟩)
  have e12 := e1.trans e2
  have st2 := e12.step L0
  have hsz : (w.alloc (.deferred (some []))).heap.size = w.heap.size + 1 := by simp
  rw [hsz] at s2 e2 e12 st2
  have hml : (μ ++ [w.heap.size] ++ [w.heap.size + 1])[H.length + 1]? = some (w.heap.size + 1) := by
    rw [List.getElem?_append_right (by rw [hlen1]; exact Nat.le_refl _), hlen1]; simp
  have hmc : (μ ++ [w.heap.size] ++ [w.heap.size + 1])[H.length]? = some w.heap.size := by
    rw [List.getElem?_append_left (by rw [hlen1]; omega), ← hs.len]; simp
  have hargs := VRs.step st2 ec
  have hyl : VR ((w.alloc (.deferred (some []))).alloc (.loop rec)) (forb L0 (μ ++ [w.heap.size] ++ [w.heap.size + 1]) (H ++ [defsO] ++ [loopO .ready ps asg bd env])) (μ ++ [w.heap.size] ++ [w.heap.size + 1]) (H ++ [defsO] ++ [loopO .ready ps asg bd env]) (.yld (H.length + 1)) (.func (.yield (w.heap.size + 1)) #[] #[]) := by
    simp only [VR]
    exact ⟨_, hml, rfl⟩
  have hcall := hc.2 L0 _ _ (.func (.yield (w.heap.size + 1)) #[] #[] :: cvs) s2 (by simp only [VRs]; exact ⟨_, _, rfl, hyl, hargs⟩)
  have henter := step_rangeF (P := C.P) (b := b) (a := a) (k := k) (cs := cs) (w := w) (g := g) (ps := ps) (assign := asg) (body := bd) (by rw [hro]; exact run_enterLoopB w b.fn a.tmps ps asg bd) ex (hc.1 _ _)
  rw [← hrec] at henter
  have harr : (#[.func (.yield (w.heap.size + 1)) #[] #[]] ++ cvs.toArray : Array Value) = (.func (.yield (w.heap.size + 1)) #[] #[] :: cvs).toArray := by simp
  rw [harr] at henter
  let a2 : Act := { a with defers := [{ target := .collected w.heap.size, args := #[] }] ++ a.defers }
  obtain ⟨e, w', fr, ⟨o, H2, μ2, hR, s3, hO, e3⟩, hcomes, hfn, hleave⟩ := hcall (b.atR a2 (.inRangeFunc (w.heap.size + 1) :: k) :: cs)
  have st3 := e3.step L0
  have e13 := e12.trans e3
  have hd2 : DfR w' (forb L0 μ2 H2) μ2 H2 (.col H.length :: df) a2.defers := by
    simp only [DfR]
    exact ⟨w.heap.size, a.defers, rfl, e3.map _ _ hmc, DfR.step (e13.step L0) hd⟩
  cases o with
  | ret d =>
    obtain ⟨v, rfl, hvd⟩ := hO
    obtain ⟨st, hst, hcont⟩ := hk d H2 hR
    have hback := step_leave_returned (c := b.atR a2 (.inRangeFunc (w.heap.size + 1) :: k)) (cs := cs) hleave
    have hfin : (b.atR a2 (.inRangeFunc (w.heap.size + 1) :: k)).finish v = b.atR a2 (.endRangeFunc (w.heap.size + 1) :: k) := by
      simp [Frame.finish, Frame.atR]
    rw [hfin] at hback
    have hml2 := e3.map _ _ hml
    obtain ⟨_, r, q1, q2, q3, q4, q5, q6⟩ := (s3.obj _ _ _ hst hml2).spec rfl
    have go : ∀ (jump : Option Code), r.pending = jump → r.state ≠ .busy → ARun C Q ((jump.map Item.code).toList ++ k) env (H2.set (H.length + 1) none) (.col H.length :: df) →
        ∃ e a' w', QRel C L0 w0 μ0 H0 Q e a' w' ∧ ArrR C.P (lone (b.atR a (.code (.rangeFunc g ps asg bd) :: k)) cs w) b cs e a' w' := by
      intro jump hj hnb hrun
      have hend : (Instr.endLoop (w.heap.size + 1)).run C.P w' = .ok jump (putB w' (w.heap.size + 1) (.loop { r with state := .exhausted })) := by rw [run_endLoopB q1 hnb, hj]
      obtain ⟨s4, e4⟩ := s3.putS (x' := none) (ob := .loop { r with state := .exhausted }) hst hml2 rfl (by simp) (fun o' h => by cases h)
      have e14 := e13.trans e4
      obtain ⟨e, a', w'', h3, h4⟩ := hrun.out L0 w0 μ0 H0 _ μ2 a2 s4 (VRs.step (e14.step L0) hv) (DfR.step (e4.step L0) hd2) (he.trans e14) b cs (hrd.step e14.map)
      exact ⟨e, a', w'', h3, .of_steps (.head henter (Steps.trans hcomes (.head hback (.one (step_endRangeF hend))))) h4⟩
    cases st with
    | ready => exact go none q6.2 (by rw [q6.1]; simp) hcont
    | done c => exact go (some c) q6.2 (by rw [q6.1]; simp) hcont
    | busy => exact hcont.elim
  | pan d =>
    obtain ⟨v, rfl, hvd⟩ := hO
    have hback := step_leave_panicked (c := b.atR a2 (.inRangeFunc (w.heap.size + 1) :: k)) (cs := cs) hleave
    rw [Frame.raise_atR] at hback
    exact ⟨.panic (pan1 v), a2, w', ⟨.pan d, env, H2, μ2, _, hp d H2 hR, s3, VRs.step (e13.step L0) hv, hd2, ⟨v, rfl, hvd⟩, he.trans e13⟩, _, .head henter (Steps.trans hcomes (.one hback))⟩
end
end Go.V
/- MAPS with numbers as keys that a call itself makes. -/
namespace Go.V
open Go.RowKit
abbrev mapO (es : List (D × D)) : Option AObj := some ⟨[], 0, 0, true, some (.map es)⟩
def findI (k : IntKind) (n : Int) : List (D × D) → Option (Option D)
  | [] => some none
  | (.int k' m, v) :: es => bif decide (k = k') then (bif n == m then some (some v) else findI k n es) else none
  | _ :: _ => none
theorem findNow_ok {w : World} {L : Nat → Prop} {μ : List Nat} {H : Heap} {k : IntKind} {n : Int} : ∀ {es : List (D × D)} {r : Option D} {l : List MapEntry} (i : Nat), findI k n es = some r → VRs w L μ H (es.map (·.1)) (l.map (·.key)) → VRs w L μ H (es.map (·.2)) (l.map (·.val)) →
    match r with
    | none => Instr.findNow (.int k) (.int k n) l i = some none
    | some d => ∃ j v, Instr.findNow (.int k) (.int k n) l i = some (some (j, v)) ∧ VR w L μ H d v
  | [], r, l, i, h, h1, _ => by
    simp only [findI] at h
    injection h with h
    subst h
    simp only [List.map_nil, VRs] at h1
    have : l = [] := List.map_eq_nil_iff.1 h1
    subst this
    rfl
  | (d, v) :: es, r, [], i, h, h1, _ => by simp [VRs] at h1
  | (d, v) :: es, r, e :: l, i, h, h1, h2 => by
    simp only [List.map_cons, VRs] at h1 h2
    obtain ⟨v1, us1, e1, k1, k2⟩ := h1
    obtain ⟨v2, us2, e2, m1, m2⟩ := h2
    injection e1 with e1 e1'
    injection e2 with e2 e2'
    subst e1; subst e2; subst e1'; subst e2'
    cases d <;> simp only [findI] at h <;> try (cases h; done)
    rename_i k' m
    simp only [VR] at k1
    by_cases hk : k = k'
    · subst hk
      simp only [decide_true, cond_true] at h
      by_cases hn : n = m
      · subst hn
        simp only [beq_self_eq_true, cond_true] at h
        injection h with h
        subst h
        refine ⟨i, e.val, ?_, m1⟩
        simp [Instr.findNow, Instr.sameNow, k1]
      have hb : (n == m) = false := by simpa using hn
      rw [hb] at h
      simp only [cond_false] at h
      have := findNow_ok (i + 1) h k2 m2
      have hs : Instr.findNow (.int k) (.int k n) (e :: l) i = Instr.findNow (.int k) (.int k n) l (i + 1) := by
        simp [Instr.findNow, Instr.sameNow, k1, hb]
      rw [hs]
      exact this
    simp [hk] at h
section
variable {C : Ctx} {env : List D} {H H' : Heap} {dst : Option Tmp} {ty : TypeId} {pos : String} {aft : Array Edge} {gd : Option (Nat × Bool)} {x y z : Operand} {d : D} {T kt et : TypeId} {te : TE}
theorem Znm {i : Nat} {r : Option Operand} (hm : C.P.underlying T = some (.map kt et)) (hr : r = none ∨ ∃ k n, r = some (.const (.int k n))) [ap : AppL H (mapO []) i H'] : OpN C ⟨dst, .makeMap T r, ty, pos, aft, gd⟩ env H (.mapp i) H' := by
  rw [← ap.len, ← ap.eq]
  refine ⟨fun L0 w μ a hs hv => ?_⟩
  have hrun : (execOp a.eval ⟨dst, .makeMap T r, ty, pos, aft, gd⟩).run C.P w = .ok (.value (.map (some w.heap.size))) (w.alloc (.map #[] 0)) := by
    rcases hr with rfl | ⟨k, n, rfl⟩
    · simp only [execOp, Option.map_none, Instr.makeMap, Sem.run_bind, run_newObj_alloc, Result.andThen_ok, Sem.run_pure]
    simp only [execOp, Option.map_some, Act.eval, Instr.makeMap, Sem.run_bind, run_underlying hm, Result.andThen_ok, asInt, asIntOf, Sem.run_pure, run_newObj_alloc]
  unfold Oper.wp
  rw [hrun]
  obtain ⟨s1, e1⟩ := hs.pushO (ob := .map #[] 0) (o := ⟨[], 0, 0, true, some (.map [])⟩) (.of_spec rfl ⟨rfl, #[], 0, heap_alloc_new w _, by simp [VRs], by simp [VRs]⟩)
  refine ⟨_, .mapp H.length, _, _, ⟨rfl, rfl⟩, rfl, s1, ?_, e1⟩
  simp only [VR]
  exact ⟨w.heap.size, by rw [← hs.len]; simp, rfl⟩
theorem run_checkKey_int {P : Program} {w : World} {kt : TypeId} {k : IntKind} {n : Int} {b : Bool} (hk : P.underlying kt = some (.int k)) : (Instr.checkKey b 10000 kt (.int k n)).run P w = .ok () w := by
  rw [show (10000 : Nat) = 9999 + 1 from rfl]
  unfold Instr.checkKey
  simp only [Sem.run_bind, run_underlying hk, Result.andThen_ok]
  rfl
theorem run_findKeyV {P : Program} {w : World} {kt : TypeId} {d : TypeDesc} {k : Value} {l : List MapEntry} {a : Option (Nat × Value)} (hd : P.underlying kt = some d) (h : Instr.findNow d k l 0 = some a) : (Instr.findKey kt k l).run P w = .ok a w := by
  simp [Instr.findKey, run_underlying hd, Result.andThen, h]
theorem Zcv {i : Nat} {k : IntKind} {n : Int} {es : List (D × D)} {op : Op} (hop : op = .insert T x y z ∨ op = .mapUpdate T x y z) (hm : C.P.underlying T = some (.map kt et)) (hk : C.P.underlying kt = some (.int k)) (hx : evO C env x = some (.mapp i)) (hy : evO C env y = some (.int k n)) (hz : evO C env z = some d) (ho : H[i]? = some (mapO es)) (hf : findI k n es = some none)
    [pl : PutL H i (mapO (es ++ [(.int k n, d)])) H'] : OpN C ⟨dst, op, ty, pos, aft, gd⟩ env H (.tup []) H' := by
  rw [← pl.eq]
  refine ⟨fun L0 w μ a hs hv => ?_⟩
  have ex := evO_ok hs hv hx
  have ey := evO_ok hs hv hy
  have ez := evO_ok hs hv hz
  simp only [VR] at ex ey
  obtain ⟨b, hb, ex⟩ := ex
  obtain ⟨_, ea, clock, k1, k2, k3⟩ := (hs.obj i _ b ho hb).spec rfl
  have hfn := findNow_ok 0 hf k2 k3
  simp only at hfn
  have hrun : (execOp a.eval ⟨dst, op, ty, pos, aft, gd⟩).run C.P w = .ok .skip (putB w b (.map (ea.push { key := .int k n, val := a.eval z, born := clock }) (clock + 1))) := by
    have hmu : (Instr.mapUpdate T (.map (some b)) (.int k n) (a.eval z)).run C.P w = .ok () (putB w b (.map (ea.push { key := .int k n, val := a.eval z, born := clock }) (clock + 1))) := by
      have hg : (getObj b).run C.P w = .ok (.map ea clock) w := by simp [getObj, Sem.run, k1]
      have hset : ∀ o, (setObj b o).run C.P w = .ok () (putB w b o) := by intro o; simp [setObj, Sem.run, k1, putB]
      simp only [Instr.mapUpdate, Sem.run_bind, run_underlying hm, Result.andThen_ok, hg, run_checkKey_int hk, run_findKeyV hk hfn, hset]
    rcases hop with rfl | rfl <;> simp only [execOp, ex, ey, Sem.run_bind, hmu, Result.andThen_ok, Sem.run_pure]
  unfold Oper.wp
  rw [hrun]
  obtain ⟨s1, e1⟩ := hs.putS (x' := mapO (es ++ [(.int k n, d)])) (ob := .map (ea.push { key := .int k n, val := a.eval z, born := clock }) (clock + 1)) ho hb rfl (by simp) fun o' e => by
    injection e with e
    subst e
    refine ⟨rfl, rfl, rfl, .of_spec rfl ⟨rfl, _, _, putB_same (hs.block_lt ho hb), ?_, ?_⟩⟩
    · simp only [List.map_append, List.map_cons, List.map_nil, Array.toList_push]
      exact VRs_append k2 (by simp only [VRs]; exact ⟨_, _, rfl, by simp only [VR], rfl⟩)
    simp only [List.map_append, List.map_cons, List.map_nil, Array.toList_push]
    exact VRs_append k3 (by simp only [VRs]; exact ⟨_, _, rfl, ez, rfl⟩)
  exact ⟨undef, .tup [], _, μ, ⟨rfl, rfl⟩, rfl, s1, by simp only [VR]; exact ⟨[], rfl, by simp [VRs]⟩, e1⟩
def lookD (zero : D) : Option D → D
  | some d => .tup [d, .bool true]
  | none => .tup [zero, .bool false]
theorem ZkK {k : IntKind} {n : Int} {ks us : List D} {r : Option D} {dz : D} (hm : C.P.underlying T = some (.map kt et)) (hk : C.P.underlying kt = some (.int k)) (hte : C.ty et = some te) (hdz : constD te.zero = some dz) (hx : evO C env x = some (.mapv ks us)) (hy : evO C env y = some (.int k n)) (hl : ks.length = us.length) (hf : findI k n (ks.zip us) = some r) :
    OpQ C ⟨dst, .lookup T x y true, ty, pos, aft, gd⟩ env H (lookD dz r) :=
  OpQ.of_runS fun L0 w μ a hs he => by
    have ex := he _ _ hx
    have ey := he _ _ hy
    simp only [VR] at ex ey
    obtain ⟨b, ea, clock, ex, _, _, k1, k2, k3⟩ := ex
    have hfn := findNow_ok 0 hf (by rw [List.map_fst_zip (by omega)]; exact k2) (by rw [List.map_snd_zip (by omega)]; exact k3)
    have hg : (getObj b).run C.P w = .ok (.map ea clock) w := by simp [getObj, Sem.run, k1]
    cases r with
    | none =>
      simp only at hfn
      refine ⟨.tuple #[te.zero, .bool false], ?_, by simp only [lookD, VR, VRs]; exact ⟨[te.zero, .bool false], rfl, _, _, rfl, constD_ok hdz, _, _, rfl, rfl, rfl⟩⟩
      simp only [execOp, ex, ey, Instr.lookup, Sem.run_bind, run_underlying hm, Result.andThen_ok, hg, Sem.run_pure, run_checkKey_int hk, run_findKeyV hk hfn, (ty_tic hte).1.run_zero, if_true]
    | some d =>
      simp only at hfn
      obtain ⟨j, v, hfn, hvd⟩ := hfn
      refine ⟨.tuple #[v, .bool true], ?_, by simp only [lookD, VR, VRs]; exact ⟨[v, .bool true], rfl, _, _, rfl, VR.lift hvd, _, _, rfl, rfl, rfl⟩⟩
      simp only [execOp, ex, ey, Instr.lookup, Sem.run_bind, run_underlying hm, Result.andThen_ok, hg, Sem.run_pure, run_checkKey_int hk, run_findKeyV hk hfn, if_true]
end
end Go.V
/- STRINGS: slices of them; bytes as a string. -/
namespace Go.V
open Go.RowKit
section
variable {C : Ctx} {env : List D} {H H' : Heap} {dst : Option Tmp} {ty : TypeId} {pos : String} {aft : Array Edge} {gd : Option (Nat × Bool)} {x y z : Operand} {d : D} {T e : TypeId} {te : TE}
theorem ZmF {s : ByteArray} {lo hi : Nat} {ol oh : Option Operand} (ht : UN C T .string) (hx : evO C env x = some (.str s)) (hlo : bndO C env 0 ol = some lo) (hhi : bndO C env s.size oh = some hi) (hl : lo ≤ hi) (hh : hi ≤ s.size) :
    OpQ C ⟨dst, .slice T x ol oh none, ty, pos, aft, gd⟩ env H (.str (s.extract lo hi)) :=
  OpQ.of_run fun L w μ a he => by
    have ex := he _ _ hx
    simp only [VR] at ex
    refine ⟨_, ?_, by simp only [VR]; rfl⟩
    have key : (Instr.sliceAt T (.string s) (ol.map a.eval) (oh.map a.eval) none).run C.P w = .ok (.string (s.extract lo hi)) w := by
      rw [run_sliceAt_string _ _ _ _ _ _ ht]
      cases ol with
      | none =>
        simp only [bndO] at hlo
        injection hlo with hlo
        subst hlo
        cases oh with
        | none =>
          simp only [bndO] at hhi
          injection hhi with hhi
          subst hhi
          simp only [Option.map_none]
          exact Go.run_slice_string_all _ _ _ ht
        | some q =>
          simp only [bndO] at hhi
          split at hhi
          · rename_i ik i hq
            split at hhi
            · rename_i h0
              injection hhi with hhi
              have eq := he _ _ hq
              simp only [VR] at eq
              simp only [Option.map_none, Option.map_some, eq]
              rw [run_slice_string_h _ _ _ ht ik i h0 (by omega), hhi]
            cases hhi
          cases hhi
      | some p =>
        simp only [bndO] at hlo
        split at hlo
        · rename_i ik i hp
          split at hlo
          · rename_i h0
            injection hlo with hlo
            have ep := he _ _ hp
            simp only [VR] at ep
            cases oh with
            | none =>
              simp only [bndO] at hhi
              injection hhi with hhi
              subst hhi
              simp only [Option.map_none, Option.map_some, ep]
              rw [run_slice_string_l _ _ _ ht ik i h0 (by omega), hlo]
            | some q =>
              simp only [bndO] at hhi
              split at hhi
              · rename_i ik' i' hq
                split at hhi
                · rename_i h0'
                  injection hhi with hhi
                  have eq := he _ _ hq
                  simp only [VR] at eq
                  simp only [Option.map_some, ep, eq]
                  rw [run_slice_string _ _ _ ik ik' i i' ht h0 (by omega) (by omega), hlo, hhi]
                cases hhi
              cases hhi
          cases hlo
        cases hlo
    simp only [execOp, ex, Sem.run_bind, Option.map_none, key, Result.andThen_ok, Sem.run_pure]
theorem Ze5 {s : ByteArray} {lo hi S b : Nat} {ol oh : Option Operand} {zv : Value} (ht : C.ty T = some ⟨.str, S, b, zv⟩) (hx : evO C env x = some (.str s)) (hlo : bndO C env 0 ol = some lo) (hhi : bndO C env s.size oh = some hi) (hl : lo ≤ hi) (hh : hi ≤ s.size) :
    OpQ C ⟨dst, .slice T x ol oh none, ty, pos, aft, gd⟩ env H (.str (s.extract lo hi)) := ZmF (ty_str ht) hx hlo hhi hl hh
def bytesOf (l : List Nat) : ByteArray := ⟨(l.map UInt8.ofNat).toArray⟩
theorem foldl_push : ∀ (l : List Nat) (s : ByteArray), ((l.map fun (n : Nat) => (n : Int)).foldl (fun r n => r.push (UInt8.ofNat n.toNat)) s) = s ++ bytesOf l
  | [], s => by
    apply ByteArray.ext
    simp [bytesOf]
  | n :: l, s => by
    simp only [List.map_cons, List.foldl_cons]
    rw [foldl_push l]
    apply ByteArray.ext
    simp [bytesOf]
theorem Zil {n S b S' b' : Nat} {l : List Nat} {src : TypeId} {zv zv' : Value} {dv : D} (hs : C.ty src = some ⟨.slice e, S, b, zv⟩) (he8 : C.P.underlying e = some (.int .u8)) (ht : C.ty T = some ⟨.str, S', b', zv'⟩) (hx : evO C env x = some dv) (hv : srcD H dv = some (n, nts .u8 l)) (hl : l.length = n) :
    OpQ C ⟨dst, .convert src T x, ty, pos, aft, gd⟩ env H (.str (bytesOf l)) :=
  OpQ.of_runS fun L0 w μ a hsr he => by
    have ex := he _ _ hx
    obtain ⟨ay, cap, ex, hmc, hnews⟩ := srcD_ok hsr hv ex
    refine ⟨.string (bytesOf l), ?_, by simp only [VR]⟩
    have hconv := run_convert_bytes_string (P := C.P) w src T e ay n cap (ty_slice hs) he8 (ty_str ht)
    simp only [execOp, ex, Sem.run_bind, hconv]
    cases l with
    | nil =>
      simp only [List.length_nil] at hl
      subst hl
      cases ay with
      | none => simp [Conv.bytesToString, bytesOf]; rfl
      | some ad =>
        have hlc : (loadCells ad 0).run C.P w = .ok ((([] : List Int).map (Value.int .u8)).toArray) w := by
          obtain ⟨us, r1, r2⟩ := run_load_row (P := C.P) (w := w) (L := forb L0 μ H) (μ := μ) (H := H) (ad := ad) (cs := []) (fun j d' hd' => by simp at hd')
          simp only [VRs] at r2
          subst r2
          exact r1
        rw [run_bytesToString w ad 0 cap [] hlc]
        rfl
    | cons c cs =>
      obtain ⟨ad, rfl, vs, hvl, hvr, hvc, _⟩ := hnews (by simp [nts])
      have hlc : (loadCells ad n).run C.P w = .ok ((((c :: cs).map fun (n : Nat) => (n : Int)).map (Value.int .u8)).toArray) w := by
        obtain ⟨us, r1, r2⟩ := run_load_row (P := C.P) (w := w) (L := forb L0 μ H) (μ := μ) (H := H) (ad := ad) (cs := nts .u8 (c :: cs)) (fun j d' hd' => by
          obtain ⟨v, k1, k2⟩ := VRs_get hvr hd'
          exact ⟨v, hvc j v k1, k2⟩)
        have hus : us = ((c :: cs).map fun (n : Nat) => (n : Int)).map (Value.int .u8) := by
          have key : ∀ (xs : List Nat) (vs : List Value), VRs w (forb L0 μ H) μ H (nts .u8 xs) vs → vs = (xs.map fun (n : Nat) => (n : Int)).map (Value.int .u8) := by
            intro xs
            induction xs with
            | nil => intro vs h; simpa [nts, VRs] using h
            | cons x xs ih =>
              intro vs h
              simp only [nts, List.map_cons, VRs] at h
              obtain ⟨v, us, rfl, h1, h2⟩ := h
              simp only [VR] at h1
              subst h1
              rw [ih us h2]
              simp
          exact key _ _ r2
        rw [hus] at r1
        have hlen : (nts .u8 (c :: cs)).length = n := by simpa [nts] using hl
        rw [hlen] at r1
        exact r1
      rw [run_bytesToString w ad n cap _ hlc, foldl_push]
      have h0 : ByteArray.empty ++ bytesOf (c :: cs) = bytesOf (c :: cs) := by
        apply ByteArray.ext
        simp
      rw [h0]
      rfl
end
end Go.V
/- Rounds as a printed proof uses them. -/
namespace Go.V
open Go.RowKit
section
variable {C : Ctx} {Q : Post} {ops : Array Oper} {rest : List Oper} {k : List Item} {env : List D} {H H' : Heap} {df : List ADef} {id : Nat} {ps : Array Tmp} {asg bd : Code} {envL : List D}
variable {dst : Option Tmp} {ty : TypeId} {pos : String} {aft : Array Edge} {gd : Option (Nat × Bool)} {x : Operand}
theorem ARun.hp (h : H = H') (hk : ARun C Q k env H' df) : ARun C Q k env H df := h ▸ hk
theorem ARun.env0 {env' : List D} (h : env = env') (hk : ARun C Q k env' H df) : ARun C Q k env H df := h ▸ hk
theorem AOps.hp (h : H = H') (hk : AOps C Q ops rest k env H' df) : AOps C Q ops rest k env H df := h ▸ hk
theorem ARun.beginRoundI (hq : Q.rd = some id) (ho : H[id]? = some (loopO .ready ps asg bd envL)) [hp : PutL H id (loopO .busy ps asg bd envL) H'] (h : ARun C Q k env H' df) : ARun C Q (.beginRound :: k) env H df :=
  ARun.beginRound hq ho (by rw [hp.eq]; exact h)
theorem AOps.yieldI {ds envR e1 e2 : List D} {args : List Operand} {tys : Array TypeId} {ps : List Tmp} (K : Option Code → Heap → Prop) [h1 : Put env dst (.bool true) e1] [h2 : Put env dst (.bool false) e2] (hg : gOk ops.toList env gd = some true) (hx : evO C env x = some (.yld id)) (ha : evOs C env args = some ds) (ho : H[id]? = some (loopO .ready ps.toArray asg bd envL)) (hl : ds.length = ps.length) (hR : setL envL (ps.zip ds) = envR)
    (hb : ARun C (QRound id K) [.code asg, .beginRound, .code bd] envR H []) (hbusy : ∀ j H', K j H' → H'[id]? = some (loopO .busy ps.toArray asg bd envL))
    (hk : ∀ H', K none H' → AOps C Q ops rest k e1 (H'.set id (loopO .ready ps.toArray asg bd envL)) df)
    (hst : ∀ c H', K (some c) H' → AOps C Q ops rest k e2 (H'.set id (loopO (.done c) ps.toArray asg bd envL)) df) :
    AOps C Q ops (⟨dst, .call ⟨.value x, args.toArray, tys⟩, ty, pos, aft, gd⟩ :: rest) k env H df :=
  AOps.yield K hg hx ha ho hl hR hb hbusy (by rw [h1.eq]; exact hk) (by rw [h2.eq]; exact hst)
theorem y_gop {o : Oper} {d : D} {g : Prop} {KP : D → Prop} {env' : List D} (hg : gOk ops.toList env o.guard = some true) (h : OpG C o env H d g KP) [hp : Put env o.dst d env'] (hk : g → AOps C Q ops rest k env' H df) (hpan : ∀ p, KP p → Q (.pan p) env H df) : AOps C Q ops (o :: rest) k env H df :=
  AOps.opH hg h (fun d' H1 ⟨h1, h2, h3⟩ => by subst h2; subst h3; rw [hp.eq]; exact hk h1) (fun d' H1 ⟨h1, h2⟩ => by subst h2; exact hpan _ h1)
end
theorem PC.gp {C : Ctx} {f : FuncId} {args : List D} {g h : Prop} {d p : D} (hc : PC C f args (fun o => (g ∧ o = .ret d) ∨ (h ∧ o = .pan p))) : PC C f args (fun o => (g ∧ o = .ret d) ∨ ∃ q, (h ∧ q = p) ∧ o = .pan q) :=
  hc.mono fun o ho => by
    rcases ho with ho | ⟨h1, h2⟩
    · exact .inl ho
    exact .inr ⟨p, ⟨h1, rfl⟩, h2⟩
theorem DC.mono {C : Ctx} {f : FuncId} {H : Heap} {args : List D} {m : AMode} {R R' : AMode → Heap → Prop} (h : DC C f H args m R) (hr : ∀ m' H', R m' H' → R' m' H') : DC C f H args m R' := by
  refine ⟨h.1, fun L0 w μ vs u hs ha hu c cs hc => ?_⟩
  obtain ⟨e, u', w', fr, ⟨v, m', H', μ', h1, h2, h3⟩, h4⟩ := h.2 L0 w μ vs u hs ha hu c cs hc
  exact ⟨e, u', w', fr, ⟨v, m', H', μ', h1, hr _ _ h2, h3⟩, h4⟩
section
variable {C : Ctx} {env : List D} {H : Heap} {p : Tmp} {T : TypeId} {i off : Nat} {o : AObj} {d : D} {rs : List ResultVar} {ds : List D} {te : TE}
theorem ResR.cell1 (h1 : env[p]? = some (.ptr i off)) (ht : C.ty T = some te) (ha : aggK te.k = false) (ho : H[i]? = some (some o)) (hd : o.cells[off]? = some d) (r : ResR C env H rs ds) : ResR C env H (.cell p T :: rs) (d :: ds) :=
  .one h1 (ty_tic ht).1 ((ty_tic ht).2.trans ha) ho hd r
theorem ResR.cellA {cs : List D} (h1 : env[p]? = some (.ptr i off)) (ht : C.ty T = some te) (ha : aggK te.k = true) (ho : H[i]? = some (some o)) (hd : (o.cells.drop off).take te.size = cs) (hl : cs.length = te.size) (r : ResR C env H rs ds) : ResR C env H (.cell p T :: rs) (.agg cs :: ds) :=
  .agg h1 (ty_tic ht).1 ((ty_tic ht).2.trans ha) ho hd hl r
end
end Go.V
set_option synthInstance.maxSize 100000
set_option synthInstance.maxHeartbeats 2000000
namespace Go.V
open Go.RowKit Go.Proofs
theorem Zlw (o0 o1 : Option AObj) (xs : List Nat) : HC C Za9 [o0, o1] [sln .u32 xs] (fun o H' => o = .ret (.clos Zau [.ptr 2 0]) ∧ H' = [o0, o1, some ⟨[sln .u32 xs], Zcj, 1, true, none⟩]) := by
  refine HC.run Zaw Za0 rfl Za1 (rs := [.tmp 2]) (by rw [Za2]) (by simp only [List.length_cons, List.length_nil, Nat.reduceAdd, Nat.reduceSub, List.replicate_succ, List.replicate_zero, List.cons_append, List.nil_append]; exact rfl) ?_
  refine ARun.seq (ARun.region ?_)
  refine y_new rfl (n_box rfl rfl rfl) ?_
  refine xa ?_; refine AOps.nil (ARun.seq (ARun.region ?_))
  refine y_op rfl (ZlR rfl) ?_
  refine xa ?_; refine AOps.nil ?_
  refine ARun.ret ?_
  refine ⟨_, _, _, .tmp rfl .nil, .cons (.same _) .nil, ?_⟩
  exact ⟨rfl, rfl⟩
abbrev HB (xs : List Nat) (ps : Array Tmp) (asg bd : Code) (envL : List D) (o0 o1 : Option AObj) (st : LSt) : Heap := [o0, o1, some ⟨[sln .u32 xs], Zcj, 1, true, none⟩, defsO, loopO st ps asg bd envL]
theorem Zjt (xs : List Nat) (hlen : xs.length ≤ 1099511627776) (ps : List Tmp) (hps : ps.length = 2) (asg bd : Code) (envL : List D) (o0 o1 : Option AObj) (W : Nat → Prop) (S : Option AObj → Prop)
    (hround : ∀ i : Nat, i < xs.length → W (i + 1) → ARun C (QRound 4 (fun j H' => match j with
      | none => W i ∧ H' = HB xs ps.toArray asg bd envL o0 o1 .busy
      | some c => c = .ret ∧ ∃ o, S o ∧ H' = HB xs ps.toArray asg bd envL o0 o .busy)) [.code asg, .beginRound, .code bd] (setL envL (ps.zip [.int .i64 (i : Int), .int .u32 (xs.getD i 0 : Nat)])) (HB xs ps.toArray asg bd envL o0 o1 .ready) [])
    (h0 : W xs.length) :
    HC C Zau (HB xs ps.toArray asg bd envL o0 o1 .ready) [.yld 4, .ptr 2 0] (fun o H' => o = .ret (.tup []) ∧ ((W 0 ∧ H' = HB xs ps.toArray asg bd envL o0 o1 .ready) ∨ ∃ o, S o ∧ H' = HB xs ps.toArray asg bd envL o0 o (.done .ret))) := by
  refine HC.run Zat ZaT rfl ZaU (rs := []) (by rw [ZaV]) (by simp only [List.length_cons, List.length_nil, Nat.reduceAdd, Nat.reduceSub, List.replicate_succ, List.replicate_zero, List.cons_append, List.nil_append]; exact rfl) ?_
  refine ARun.seq (ARun.region ?_)
  refine y_op rfl (Zac rfl rfl rfl rfl rfl) ?_
  refine xN ?_
  refine y_op rfl (q_sub rfl rfl (IntWalk.i64_in _ (by omega))) ?_
  refine xa ?_; refine AOps.nil (ARun.block ?_)
  refine ARun.loopI (S := Nat) (fun i : Nat => [(7, .any), (8, .any), (9, .any), (10, .any), (11, .any), (12, .any), (13, .any), (14, .any), (15, .any), (16, .any), (17, .any), (18, .any), (3, .int .i64 ((i : Int) - 1))]) (fun i : Nat => HB xs ps.toArray asg bd envL o0 o1 .ready) (fun i : Nat => i ≤ xs.length ∧ W i) (fun i : Nat => i) (xs.length) ?_ ?_ ?_ ?_
  · exact ⟨Nat.le_refl _, h0⟩
  · (repeat' first | exact envLe_nil | apply envLe_any | apply envLe_same)
  · rfl
  rintro i hinv ih
  obtain ⟨hi, hw⟩ := hinv
  refine ARun.seq (ARun.seq (ARun.region ?_)); refine xm ?_; refine xi ?_; refine AOps.nil ?_
  refine ARun.cond rfl (fun h => ?_) (fun h => ?_)
  · skip
    replace h := of_decide_eq_true h
    obtain ⟨j, rfl⟩ : ∃ j, i = j + 1 := ⟨i - 1, by omega⟩
    have e3 : ((j + 1 : Nat) : Int) - 1 = (j : Int) := by omega
    rw [e3]
    have hj : j < xs.length := by omega
    refine ARun.skip (ARun.seq (ARun.block (ARun.seq (ARun.region ?_)))); refine xm ?_; refine xm ?_
    refine y_op rfl (Zac rfl rfl rfl rfl rfl) ?_
    refine xm ?_
    refine y_op rfl (Zaj (i := j) rfl rfl rfl rfl (by omega) (by omega) (nts_ne (by omega)) (drop_nat rfl)) ?_
    refine y_op rfl (q_load rfl rfl rfl (nts_load hj)) ?_
    refine AOps.yieldI _ rfl rfl rfl rfl (by rw [hps]; rfl) rfl (hround j hj hw) ?_ ?_ ?_
    · intro q H' hq
      cases q with
      | none => obtain ⟨_, rfl⟩ := hq; rfl
      | some c => obtain ⟨_, o, _, rfl⟩ := hq; rfl
    · skip
      rintro _ ⟨hW, rfl⟩
      refine AOps.hp (H' := HB xs ps.toArray asg bd envL o0 o1 .ready) rfl ?_
      refine xn ?_; refine AOps.nil ?_
      refine ARun.condF rfl ?_
      refine ARun.skip (ARun.inBlock (ARun.region ?_)); refine xm ?_
      refine y_op rfl (q_sub rfl rfl (IntWalk.i64_in _ (by omega))) ?_
      refine xa ?_; refine AOps.nil ?_
      refine ARun.again (ih ((j)) ?_ ?_) ?_ ?_
      · exact ⟨by omega, hW⟩
      · exact Nat.lt_succ_self _
      · (repeat' first | exact envLe_nil | apply envLe_any | apply envLe_same)
      rfl
    rintro c _ ⟨rfl, o, hS, rfl⟩
    refine AOps.hp (H' := HB xs ps.toArray asg bd envL o0 o (.done .ret)) rfl ?_
    refine xn ?_; refine AOps.nil ?_
    refine ARun.condT rfl ?_
    refine ARun.ret ?_
    refine ⟨_, _, _, .nil, .nil, ?_⟩
    exact ⟨rfl, .inr ⟨o, hS, rfl⟩⟩
  replace h := of_decide_eq_false h
  have hz : i = 0 := by omega
  subst hz
  refine ARun.exit rfl ?_
  refine ARun.nil ?_
  refine ⟨_, _, _, .nil, .nil, ?_⟩
  exact ⟨rfl, .inl ⟨hw, rfl⟩⟩
end Go.V
set_option synthInstance.maxSize 100000
set_option synthInstance.maxHeartbeats 2000000
namespace Go.V
open Go.RowKit Go.Proofs
theorem div_step (a i : Nat) : a / B ^ i = a / B ^ (i + 1) * B + dig a i := by
  rw [dig, Nat.pow_succ, ← Nat.div_div_eq_div_mul]
  have := Nat.div_add_mod (a / B ^ i) B
  rw [Nat.mul_comm] at this
  exact this.symm
theorem div_lt_of {a b k : Nat} (h : a / k < b / k) : a < b := by
  rcases Nat.lt_or_ge a b with h1 | h1
  · exact h1
  exact absurd (Nat.div_le_div_right (c := k) h1) (by omega)
theorem ln_lt_of {a b : Nat} (h : (lim a).length < (lim b).length) : a < b := by
  rcases Nat.lt_or_ge a b with h1 | h1
  · exact h1
  exact absurd (ln_mono h1) (by omega)
theorem cmpI_lo {a b : Nat} (h : a < b) : cmpI a b = -1 := by unfold cmpI; rw [if_pos h]
theorem cmpI_hi {a b : Nat} (h : b < a) : cmpI a b = 1 := by unfold cmpI; rw [if_neg (by omega), if_neg (by omega)]
theorem cmpI_eq {a b : Nat} (h : a = b) : cmpI a b = 0 := by unfold cmpI; rw [if_neg (by omega), if_pos h]
theorem Ze6 : CmpOK := by
  intro a b hA hB
  refine PC.rn ZcF ZfY ZfZ (rs := [.cell 4 3]) (by rw [Zf0]) ?_
  refine ARun.seq (ARun.region ?_)
  refine y_new rfl (n_box rfl rfl rfl) ?_
  refine y_new rfl (Zag rfl rfl rfl rfl) ?_
  refine AOps.nil (ARun.seq (ARun.block (ARun.seq (ARun.region ?_)))); refine xm ?_; refine xN ?_
  refine y_op rfl (Zac rfl rfl rfl rfl rfl) ?_
  refine xN ?_; refine xi ?_; refine xa ?_; refine AOps.nil ?_
  refine ARun.ite rfl (fun h1 => ?_) (fun h1 => ?_)
  · skip
    refine ARun.seq (ARun.region ?_)
    refine y_new rfl (Zad rfl rfl rfl rfl rfl rfl (Nat.le_of_ble_eq_true rfl) rfl) ?_
    refine AOps.nil ?_
    refine ARun.ret ?_
    refine ⟨_, _, _, ResR.cell1 rfl rfl rfl rfl rfl .nil, .cons (.same _) .nil, rfl, ?_⟩
    rw [cmpI_lo (ln_lt_of (by omega))]
    rfl
  refine ARun.seq (ARun.region ?_); refine xm ?_; refine xN ?_
  refine y_op rfl (Zac rfl rfl rfl rfl rfl) ?_
  refine xN ?_; refine xi ?_; refine xa ?_; refine AOps.nil ?_
  refine ARun.ite rfl (fun h2 => ?_) (fun h2 => ?_)
  · skip
    refine ARun.seq (ARun.region ?_)
    refine y_new rfl (Zad rfl rfl rfl rfl rfl rfl (Nat.le_of_ble_eq_true rfl) rfl) ?_
    refine AOps.nil ?_
    refine ARun.ret ?_
    refine ⟨_, _, _, ResR.cell1 rfl rfl rfl rfl rfl .nil, .cons (.same _) .nil, rfl, ?_⟩
    rw [cmpI_hi (ln_lt_of (by omega))]
    rfl
  have hl : (lim a).length = (lim b).length := by omega
  refine ARun.skip (ARun.inBlock (ARun.seq (ARun.seq (ARun.region ?_)))); refine xm ?_
  refine Zay rfl rfl rfl rfl (Zlw _ _ (lim a)) ?_ (by rintro _ _ ⟨h, _⟩; cases h)
  rintro _ _ ⟨h, rfl⟩
  injection h with h
  subst h
  refine AOps.nil (ARun.block ?_)
  refine ARun.rangeFn (n := 3) rfl rfl rfl (Zjt (lim a) hA [21, 22] rfl _ _ _ _ _ (fun i => a / B ^ i = b / B ^ i) (fun o => o = some ⟨[.int .i64 (cmpI a b)], t_int, 1, true, none⟩) (fun i hi hw => ?_) ?_) ?_ ?_
  · refine ARun.env0 (by simp only [setL, List.zip_cons_cons, List.zip_nil_right, List.set_cons_succ, List.set_cons_zero]; exact rfl) ?_
    have hib : i < (lim b).length := by omega
    have ea := div_step a i
    have eb := div_step b i
    rw [lim_get]
    refine ARun.seq (ARun.region ?_); refine xa ?_; refine AOps.nil (ARun.region ?_); refine xa ?_; refine AOps.nil ?_
    refine ARun.beginRoundI rfl rfl ?_
    refine ARun.block (ARun.block (ARun.seq (ARun.region ?_))); refine xm ?_
    refine y_op rfl (Zac rfl rfl rfl rfl rfl) ?_
    refine xm ?_
    refine y_op rfl (Zaj (i := i) rfl rfl rfl rfl (by omega) (by omega) (nts_ne (by omega)) (drop_nat rfl)) ?_
    refine y_op rfl (q_load rfl rfl rfl (lim_load hib)) ?_
    refine xi ?_; refine xa ?_; refine AOps.nil ?_
    refine ARun.ite rfl (fun h3 => ?_) (fun h3 => ?_)
    · skip
      refine ARun.seq (ARun.region ?_)
      refine y_new rfl (Zad rfl rfl rfl rfl rfl rfl (Nat.le_of_ble_eq_true rfl) rfl) ?_
      refine AOps.nil ?_
      refine ARun.ret ⟨rfl, rfl, _, rfl, ?_⟩
      have hlt : a < b := div_lt_of (k := B ^ i) (by rw [ea, eb, hw]; omega)
      rw [cmpI_lo hlt]; rfl
    refine ARun.seq (ARun.region ?_); refine xm ?_
    refine y_op rfl (Zac rfl rfl rfl rfl rfl) ?_
    refine xm ?_
    refine y_op rfl (Zaj (i := i) rfl rfl rfl rfl (by omega) (by omega) (nts_ne (by omega)) (drop_nat rfl)) ?_
    refine y_op rfl (q_load rfl rfl rfl (lim_load hib)) ?_
    refine xi ?_; refine xa ?_; refine AOps.nil ?_
    refine ARun.ite rfl (fun h4 => ?_) (fun h4 => ?_)
    · skip
      refine ARun.seq (ARun.region ?_)
      refine y_new rfl (Zad rfl rfl rfl rfl rfl rfl (Nat.le_of_ble_eq_true rfl) rfl) ?_
      refine AOps.nil ?_
      refine ARun.ret ⟨rfl, rfl, _, rfl, ?_⟩
      have hlt : b < a := div_lt_of (k := B ^ i) (by rw [ea, eb, hw]; omega)
      rw [cmpI_hi hlt]; rfl
    refine ARun.skip (ARun.inBlock (ARun.inBlock ?_))
    refine ARun.nil ⟨rfl, ?_, rfl⟩
    have : dig a i = dig b i := by omega
    rw [ea, eb, hw, this]
  · have e1 := Nat.div_eq_of_lt (ln_lt a)
    have e2 := Nat.div_eq_of_lt (ln_lt b)
    rw [← hl] at e2
    rw [e1, e2]
  · rintro d H2 ⟨h, hh⟩
    injection h with h
    subst h
    rcases hh with ⟨hw, rfl⟩ | ⟨o, rfl, rfl⟩
    · refine ⟨.ready, rfl, ?_⟩
      rw [Nat.pow_zero, Nat.div_one, Nat.div_one] at hw
      rw [cmpI_eq hw]
      refine ARun.hp (H' := [some ⟨[numD b], Zcj, 1, true, none⟩, some ⟨[.int .i64 0], t_int, 1, true, none⟩, some ⟨[numD a], Zcj, 1, true, none⟩, defsO, none]) rfl ?_
      refine ARun.inBlock (ARun.seq (ARun.region ?_))
      refine y_new rfl (Zad rfl rfl rfl rfl rfl rfl (Nat.le_of_ble_eq_true rfl) rfl) ?_
      refine AOps.nil ?_
      refine ARun.ret ?_
      exact ⟨⟨_, rfl, rfl, rfl⟩, _, _, _, ResR.cell1 rfl rfl rfl rfl rfl .nil, .cons (.same _) .nil, rfl, rfl⟩
    refine ⟨.done .ret, rfl, ?_⟩
    refine ARun.ret ?_
    exact ⟨⟨_, rfl, rfl, rfl⟩, _, _, _, ResR.cell1 rfl rfl rfl rfl rfl .nil, .cons (.same _) .nil, rfl, rfl⟩
  rintro d H2 ⟨h, _⟩
  cases h
end Go.V
set_option synthInstance.maxSize 100000
set_option synthInstance.maxHeartbeats 2000000
namespace Go.V
open Go.RowKit Go.Proofs
instance okNatDec (xs : List Nat) : Decidable (okNat xs) := decidable_of_iff _ okNat_iff.symm
def okB (xs : List Nat) : Bool := decide (okNat xs)
theorem okB_iff {xs : List Nat} : okB xs = true ↔ okNat xs := by unfold okB; exact decide_eq_true_iff
theorem okB_not {xs : List Nat} : okB xs = false ↔ ¬ okNat xs := by unfold okB; exact decide_eq_false_iff_not
def numOf : D → Nat
  | .int _ n => n.toNat
  | _ => 0
def badD : D → Bool
  | .sl _ cs => !okB (cs.map numOf)
  | _ => false
theorem numOf_nts (xs : List Nat) : (nts .u32 xs).map numOf = xs := by
  induction xs with
  | nil => rfl
  | cons x xs ih =>
    simp only [nts, List.map_cons] at ih ⊢
    rw [ih]
    simp [numOf]
theorem badD_sln (xs : List Nat) : badD (sln .u32 xs) = !okB xs := by
  simp only [badD]
  rw [numOf_nts]
theorem Zh3 (xs : List Nat) : PC C Zet [sln .u32 xs] (fun o => o = .ret (.bool (!okB xs))) := by
  refine PC.rn ZdP ZhZ Zh0 (rs := [.tmp 2]) (by rw [Zh1]) ?_
  refine ARun.seq (ARun.region ?_); refine xa ?_; refine AOps.nil (ARun.seq (ARun.region ?_)); refine xm ?_
  refine xc rfl rfl (Zb3 xs (okNatDec xs)) ?_
  refine xn ?_; refine xa ?_; refine AOps.nil ?_
  refine ARun.ret ?_
  refine ⟨_, _, _, .tmp rfl .nil, .cons (.same _) .nil, rfl, ?_⟩
  rfl
theorem Zdo (l : List (List Nat)) (n : Nat) (hn : l.length = n) : PC C Zlm [.sl n (l.map (sln .u32))] (fun o => (l.all okB = true ∧ o = .ret (.tup [])) ∨ (l.all okB = false ∧ o = .pan (failN 1))) := by
  have hp : D.pure.pures (l.map (sln .u32)) = true := by
    induction l generalizing n with
    | nil => rfl
    | cons x l ih =>
      simp only [List.map_cons, D.pure.pures, D.pure, Bool.true_and]
      exact ih _ rfl
  have he : (l.map (sln .u32)).any badD = !l.all okB := by
    clear hp hn
    induction l with
    | nil => rfl
    | cons x l ih => simp only [List.map_cons, List.any_cons, List.all_cons, badD_sln, ih, Bool.not_and]
  refine PC.rn Zfm Zke Zkf (rs := []) (by rw [Zkg]) ?_
  refine ARun.region ?_; refine xm ?_
  refine xc rfl rfl (ZkJ _ n (by simpa using hn) Zet [] badD rfl (fun d hd => by obtain ⟨xs, _, rfl⟩ := List.mem_map.1 hd; rw [badD_sln]; exact Zh3 xs)) ?_
  refine xn ?_
  refine y_gop rfl (g_call rfl rfl (PC.gp (Zcu _ 1))) (fun hg => ?_) (fun q hq => by obtain ⟨hq, rfl⟩ := hq; exact ⟨_, _, .same _, rfl, .inr ⟨by rw [he, Bool.not_not] at hq; exact hq, rfl⟩⟩)
  refine AOps.nil ?_
  refine ARun.nil ?_
  refine ⟨_, _, _, .nil, .nil, rfl, ?_⟩
  exact .inl ⟨by rw [he, Bool.not_not] at hg; exact hg, rfl⟩
theorem Zdp (n : Nat) : PC C Zlq [numD n] (fun o => ((lim n).length ≤ 1024 ∧ o = .ret (numD n)) ∨ (¬ (lim n).length ≤ 1024 ∧ o = .pan (failN 2))) := by
  refine PC.rn Zfn Zkh Zki (rs := [.tmp 2]) (by rw [Zkj]) ?_
  refine ARun.lenle 0 rfl (fun hlen => ?_)
  rw [maxLen_eq] at hlen
  refine ARun.seq (ARun.region ?_); refine xa ?_; refine AOps.nil (ARun.seq (ARun.region ?_)); refine xm ?_; refine xN ?_; refine xi ?_
  refine y_gop rfl (g_call rfl rfl (PC.gp (Zcu _ 2))) (fun hg => ?_) (fun q hq => by obtain ⟨hq, rfl⟩ := hq; exact ⟨_, _, .same _, rfl, .inr ⟨by have := of_decide_eq_false hq; omega, rfl⟩⟩)
  refine AOps.nil (ARun.seq (ARun.region ?_)); refine xm ?_
  refine xc rfl rfl (Zhg (lim n) (by have := of_decide_eq_true hg; omega)) ?_
  refine xa ?_; refine AOps.nil ?_
  refine ARun.ret ?_
  refine ⟨_, _, _, .tmp rfl .nil, .cons (.same _) .nil, rfl, ?_⟩
  exact .inl ⟨by have := of_decide_eq_true hg; omega, rfl⟩
end Go.V
set_option synthInstance.maxSize 100000
set_option synthInstance.maxHeartbeats 2000000
namespace Go.V
open Go.RowKit Go.Proofs
def outN : Nat ⊕ Int → Out
  | .inl n => .ret (numD n)
  | .inr e => .pan (failN e)
def resN (xs ys : List Nat) (v : Nat ⊕ Int) : Nat × Int :=
  bif okB xs && okB ys then (match v with
    | .inl n => if (lim n).length ≤ 1024 then (n, 0) else (0, 2)
    | .inr e => (0, e)) else (0, 1)
theorem fz_nil {H : Heap} : Fz H .nilsl (numD 0) [] := by
  have : numD 0 = .sl 0 [] := by rw [numD, lim_zero]; rfl
  rw [this]; exact .nil
theorem okNat_lim {xs : List Nat} (hu : U32 xs) (h : okB xs = true) : ∃ a, xs = lim a ∧ (lim a).length ≤ 1024 :=
  ⟨val xs, (lim_val hu (okB_iff.1 h).2).symm, by rw [lim_val hu (okB_iff.1 h).2]; exact (okB_iff.1 h).1⟩
theorem Zbp (xs ys : List Nat) (hx : U32 xs) (hy : U32 ys) (f : FuncId) (v : Nat ⊕ Int) (hf : ∀ a b, xs = lim a → ys = lim b → (lim a).length ≤ 1024 → (lim b).length ≤ 1024 → PC C f [numD a, numD b] (fun o => o = outN v)) :
    PC C ZfX [sln .u32 xs, sln .u32 ys, .agg [.clos f [], .nilfn]] (fun o => o = .ret (.tup [numD (resN xs ys v).1, .int .i64 (resN xs ys v).2])) := by
  have pan : ∀ (e : Int) (env : List D) (o0 : Option AObj), env[6]? = some .nilsl → env[7]? = some (.ptr 1 0) → resN xs ys v = (0, e) → (QFin C [.tmp 6, .cell 7 28] fun o x => o.pure = true ∧ o = .ret (.tup [numD (resN xs ys v).1, .int .i64 (resN xs ys v).2])) (.pan (failN e)) env [o0, some ⟨[.int .i64 0], Zao, 1, true, none⟩] [.fn ZaH [.ptr 1 0]] := by
    intro e env o0 h6 h7 hr
    refine DC.mono (ZeB _ 0 e) ?_
    rintro _ _ ⟨rfl, rfl⟩
    exact ⟨_, _, _, .tmp h6 (ResR.cell1 h7 rfl rfl rfl rfl .nil), .cons fz_nil (.cons (.same _) .nil), rfl, by rw [hr]; rfl⟩
  refine PC.rn Zb8 ZeK ZeL (rs := [.tmp 6, .cell 7 28]) (by rw [ZeM]) ?_
  refine ARun.seq (ARun.region ?_)
  refine y_new rfl (n_box rfl rfl rfl) ?_
  refine xa ?_
  refine y_new rfl (Zag rfl rfl rfl rfl) ?_
  refine AOps.nil (ARun.seq (ARun.region ?_))
  refine Ze4 rfl rfl rfl ?_
  refine AOps.nil (ARun.seq (ARun.region ?_)); refine xm ?_; refine xm ?_
  refine y_op rfl (ZaB rfl rfl rfl rfl rfl rfl rfl rfl rfl rfl rfl (by decide) (by decide) rfl) ?_
  refine y_gop rfl (g_call rfl rfl (PC.gp (Zdo [xs, ys] 2 rfl))) (fun hg => ?_) (fun q hq => by obtain ⟨hq, rfl⟩ := hq; exact pan 1 _ _ rfl rfl (by simp only [List.all_cons, List.all_nil, Bool.and_true] at hq; simp only [resN, hq, cond_false]))
  simp only [List.all_cons, List.all_nil, Bool.and_true] at hg
  have hres := hg
  rw [Bool.and_eq_true] at hg
  obtain ⟨a, rfl, la⟩ := okNat_lim hx hg.1
  obtain ⟨b, rfl, lb⟩ := okNat_lim hy hg.2
  have hfa := hf a b rfl rfl la lb
  cases v with
  | inr e =>
    refine AOps.nil (ARun.seq (ARun.region ?_))
    refine y_op rfl (q_fldP rfl rfl rfl (by decide)) ?_
    refine y_op rfl (Zac rfl rfl rfl rfl rfl) ?_
    refine xm ?_; refine xm ?_
    refine y_gop rfl (g_call (d := .any) (g := False) (KP := fun q => q = failN e) rfl rfl (hfa.mono fun o ho => .inr ⟨failN e, rfl, ho⟩)) (fun hg => hg.elim) (fun q hq => by subst hq; exact pan e _ _ rfl rfl (by simp only [resN, hres, cond_true]))
  | inl n =>
    refine AOps.nil (ARun.seq (ARun.region ?_))
    refine y_op rfl (q_fldP rfl rfl rfl (by decide)) ?_
    refine y_op rfl (Zac rfl rfl rfl rfl rfl) ?_
    refine xm ?_; refine xm ?_
    refine xc rfl rfl (hfa) ?_
    refine y_gop rfl (g_call rfl rfl (PC.gp (Zdp n))) (fun hg => ?_) (fun q hq => by obtain ⟨hq, rfl⟩ := hq; exact pan 2 _ _ rfl rfl (by simp only [resN, hres, cond_true, if_neg hq]))
    refine xa ?_
    refine y_new rfl (Zad rfl rfl rfl rfl rfl rfl (Nat.le_of_ble_eq_true rfl) rfl) ?_
    refine AOps.nil ?_
    refine ARun.ret ?_
    refine DC.mono (ZeA _ 0) ?_
    rintro _ _ ⟨rfl, rfl⟩
    exact ⟨_, _, _, .tmp rfl (ResR.cell1 rfl rfl rfl rfl rfl .nil), .cons (.same _) (.cons (.same _) .nil), rfl, by simp only [resN, hres, cond_true, if_pos hg]; rfl⟩
end Go.V
set_option synthInstance.maxSize 100000
set_option synthInstance.maxHeartbeats 2000000
namespace Go.V
open Go.RowKit Go.Proofs
theorem dc0_caught_ret (e0 : Int) : DC C ZaH [some ⟨[.int .i64 e0], Zao, 1, true, none⟩] [.ptr 0 0] .returning (fun m' H' => m' = .returning ∧ H' = [some ⟨[.int .i64 e0], Zao, 1, true, none⟩]) := by
  refine DC.of_run Zbc ZbH rfl ZbI (by rw [ZbJ]) (fun _ h => by cases h) (by simp only [List.length_cons, List.length_nil, Nat.reduceAdd, Nat.reduceSub, List.replicate_succ, List.replicate_zero, List.cons_append, List.nil_append, recD, envPut, List.set_cons_succ, List.set_cons_zero]; exact rfl) rfl (by simp only [recD, envPut, List.set_cons_succ, List.set_cons_zero]; exact rfl) ?_
  refine ARun.seq (ARun.region ?_); refine xm ?_
  refine y_op rfl (ZkI (by kernel_rfl) rfl) ?_
  refine AOps.nil ?_
  refine ARun.condF rfl ?_
  refine ARun.skip ?_
  refine ARun.nil ?_
  exact ⟨rfl, rfl, rfl⟩
theorem dc0_caught_pan (e0 e : Int) : DC C ZaH [some ⟨[.int .i64 e0], Zao, 1, true, none⟩] [.ptr 0 0] (.panicking (failN e)) (fun m' H' => m' = .recovered (failN e) ∧ H' = [some ⟨[.int .i64 e], Zao, 1, true, none⟩, some ⟨[.int .i64 e], Zck, 1, true, none⟩]) := by
  refine DC.of_run Zbc ZbH rfl ZbI (by rw [ZbJ]) (fun _ h => by cases h) (by simp only [List.length_cons, List.length_nil, Nat.reduceAdd, Nat.reduceSub, List.replicate_succ, List.replicate_zero, List.cons_append, List.nil_append, recD, envPut, List.set_cons_succ, List.set_cons_zero]; exact rfl) rfl (by simp only [recD, envPut, List.set_cons_succ, List.set_cons_zero]; exact rfl) ?_
  refine ARun.seq (ARun.region ?_); refine xm ?_
  refine y_op rfl (q_ifNe (by kernel_rfl) rfl) ?_
  refine AOps.nil ?_
  refine ARun.condT rfl ?_
  refine ARun.seq (ARun.region ?_); refine xm ?_
  refine y_op rfl (Zcg rfl rfl rfl) ?_
  refine xm ?_; refine xe ?_; refine xe ?_
  refine y_new rfl (Zag rfl rfl rfl rfl) ?_
  refine y_new rfl (Zaa rfl rfl rfl rfl rfl rfl rfl rfl (Nat.le_of_ble_eq_true rfl) rfl) ?_
  refine xa ?_; refine AOps.nil (ARun.seq (ARun.seq (ARun.region ?_))); refine xm ?_; refine xn ?_; refine AOps.nil ?_
  refine ARun.condF rfl ?_
  refine ARun.skip (ARun.region ?_); refine xm ?_
  refine y_op rfl (q_fldP rfl rfl rfl (by decide)) ?_
  refine y_op rfl (Zac rfl rfl rfl rfl rfl) ?_
  refine y_op rfl (q_nil rfl rfl) ?_
  refine y_new rfl (Zad rfl rfl rfl rfl rfl rfl (Nat.le_of_ble_eq_true rfl) rfl) ?_
  refine AOps.nil ?_
  refine ARun.nil ?_
  exact ⟨rfl, rfl, rfl⟩
theorem ZkL (a b : Nat) (ha : (lim a).length ≤ 1024) (hb : (lim b).length ≤ 1024) : PC C Zg4 [numD a, numD b] (fun o => o = outN (if b ≤ a then .inl (a - b) else .inr 3)) := by
  refine PC.rn Zfo Zkk Zkl (rs := [.tmp 4]) (by rw [Zkm]) ?_
  refine ARun.seq (ARun.region ?_); refine xa ?_; refine AOps.nil (ARun.seq (ARun.region ?_)); refine xm ?_; refine xm ?_
  refine xc rfl rfl (Ze6 a b (by omega) (by omega)) ?_
  refine xi ?_
  refine y_gop rfl (g_call rfl rfl (PC.gp (Zcu _ 3))) (fun hg => ?_) (fun q hq => by obtain ⟨hq, rfl⟩ := hq; exact ⟨_, _, .same _, rfl, by have := of_decide_eq_false hq; rw [if_neg (fun h => this (by unfold cmpI; repeat' split; all_goals omega))]; rfl⟩)
  have hg := of_decide_eq_true hg
  have hab : b ≤ a := by
    unfold cmpI at hg
    split at hg <;> omega
  refine AOps.nil (ARun.seq (ARun.region ?_)); refine xm ?_; refine xm ?_
  refine xc rfl rfl (ZbN a b (by omega) hab) ?_
  refine xa ?_; refine AOps.nil ?_
  refine ARun.ret ?_
  refine ⟨_, _, _, .tmp rfl .nil, .cons (.same _) .nil, rfl, ?_⟩
  rw [if_pos hab]; rfl
theorem Zim (xs ys : List Nat) (hx : U32 xs) (hy : U32 ys) : PC C Zm3 [sln .u32 xs, sln .u32 ys] (fun o => o = .ret (.tup [numD (resN xs ys (.inl (val xs + val ys))).1, .int .i64 (resN xs ys (.inl (val xs + val ys))).2])) := by
  refine PC.rn Zh8 Zmb Zmc (rs := [.tmp 4, .tmp 5]) (by rw [Zmd]) ?_
  refine ARun.seq (ARun.region ?_); refine xa ?_; refine xa ?_; refine AOps.nil (ARun.seq (ARun.region ?_)); refine xm ?_; refine xm ?_
  refine y_op rfl (Zal rfl rfl rfl rfl rfl) ?_
  refine xc rfl rfl (Zbp xs ys hx hy Zdh (.inl (val xs + val ys)) (fun a b h1 h2 la lb => by subst h1; subst h2; rw [val_lim, val_lim]; exact Zaz a b (by omega) (by omega))) ?_
  refine xe ?_; refine xe ?_; refine xa ?_; refine xa ?_; refine AOps.nil ?_
  refine ARun.ret ?_
  refine ⟨_, _, _, .tmp rfl (.tmp rfl .nil), .cons (.same _) (.cons (.same _) .nil), rfl, ?_⟩
  rfl
theorem Zin (xs ys : List Nat) (hx : U32 xs) (hy : U32 ys) : PC C Zm6 [sln .u32 xs, sln .u32 ys] (fun o => o = .ret (.tup [numD (resN xs ys (.inl (val xs * val ys))).1, .int .i64 (resN xs ys (.inl (val xs * val ys))).2])) := by
  refine PC.rn Zif Zmq Zmr (rs := [.tmp 4, .tmp 5]) (by rw [Zms]) ?_
  refine ARun.seq (ARun.region ?_); refine xa ?_; refine xa ?_; refine AOps.nil (ARun.seq (ARun.region ?_)); refine xm ?_; refine xm ?_
  refine y_op rfl (Zal rfl rfl rfl rfl rfl) ?_
  refine xc rfl rfl (Zbp xs ys hx hy Zdj (.inl (val xs * val ys)) (fun a b h1 h2 la lb => by subst h1; subst h2; rw [val_lim, val_lim]; exact Zik a b (by omega) (by omega))) ?_
  refine xe ?_; refine xe ?_; refine xa ?_; refine xa ?_; refine AOps.nil ?_
  refine ARun.ret ?_
  refine ⟨_, _, _, .tmp rfl (.tmp rfl .nil), .cons (.same _) (.cons (.same _) .nil), rfl, ?_⟩
  rfl
theorem Ze7 (xs ys : List Nat) (hx : U32 xs) (hy : U32 ys) : PC C Zm2 [sln .u32 xs, sln .u32 ys] (fun o => o = .ret (.tup [numD (resN xs ys (if val ys ≤ val xs then .inl (val xs - val ys) else .inr 3)).1, .int .i64 (resN xs ys (if val ys ≤ val xs then .inl (val xs - val ys) else .inr 3)).2])) := by
  refine PC.rn Zh7 Zl8 Zl9 (rs := [.tmp 4, .tmp 5]) (by rw [Zma]) ?_
  refine ARun.seq (ARun.region ?_); refine xa ?_; refine xa ?_; refine AOps.nil (ARun.seq (ARun.region ?_)); refine xm ?_; refine xm ?_
  refine y_op rfl (Zal rfl rfl rfl rfl rfl) ?_
  refine xc rfl rfl (Zbp xs ys hx hy Zg4 (if val ys ≤ val xs then .inl (val xs - val ys) else .inr 3) (fun a b h1 h2 la lb => by subst h1; subst h2; rw [val_lim, val_lim]; exact ZkL a b la lb)) ?_
  refine xe ?_; refine xe ?_; refine xa ?_; refine xa ?_; refine AOps.nil ?_
  refine ARun.ret ?_
  refine ⟨_, _, _, .tmp rfl (.tmp rfl .nil), .cons (.same _) (.cons (.same _) .nil), rfl, ?_⟩
  rfl
theorem ZkM (a b : Nat) (ha : (lim a).length ≤ 1024) (hb : (lim b).length ≤ 1024) (hb0 : 0 < b) : PC C Zg8 [numD a, numD b] (fun o => o = .ret (.tup [numD (a / b), numD (a % b)])) := by
  refine PC.rn Zfq Zkr Zks (rs := [.tmp 4, .tmp 5]) (by rw [Zkt]) ?_
  refine ARun.seq (ARun.region ?_); refine xa ?_; refine xa ?_; refine AOps.nil (ARun.seq (ARun.region ?_)); refine xm ?_; refine xm ?_
  refine xc rfl rfl (Znk Ze6 32 (by decide) a b (by omega) (by omega) hb0) ?_
  refine xe ?_; refine xe ?_; refine xa ?_; refine xa ?_; refine AOps.nil ?_
  refine ARun.ret ?_
  refine ⟨_, _, _, .tmp rfl (.tmp rfl .nil), .cons (.same _) (.cons (.same _) .nil), rfl, ?_⟩
  rfl
def resD (xs ys : List Nat) : Nat × Nat × Int :=
  bif okB xs && okB ys then (if ys.length = 0 then (0, 0, 8) else (val xs / val ys, val xs % val ys, 0)) else (0, 0, 1)
theorem Zh4 (xs ys : List Nat) (hx : U32 xs) (hy : U32 ys) :
    PC C Zjh [sln .u32 xs, sln .u32 ys, .agg [.nilfn, .clos Zg8 []]] (fun o => o = .ret (.tup [numD (resD xs ys).1, numD (resD xs ys).2.1, .int .i64 (resD xs ys).2.2])) := by
  have pan : ∀ (e : Int) (env : List D) (o0 : Option AObj), env[6]? = some .nilsl → env[7]? = some .nilsl → env[8]? = some (.ptr 1 0) → resD xs ys = (0, 0, e) → (QFin C [.tmp 6, .tmp 7, .cell 8 28] fun o x => o.pure = true ∧ o = .ret (.tup [numD (resD xs ys).1, numD (resD xs ys).2.1, .int .i64 (resD xs ys).2.2])) (.pan (failN e)) env [o0, some ⟨[.int .i64 0], Zao, 1, true, none⟩] [.fn ZaH [.ptr 1 0]] := by
    intro e env o0 h6 h7 h8 hr
    refine DC.mono (ZeB _ 0 e) ?_
    rintro _ _ ⟨rfl, rfl⟩
    exact ⟨_, _, _, .tmp h6 (.tmp h7 (ResR.cell1 h8 rfl rfl rfl rfl .nil)), .cons fz_nil (.cons fz_nil (.cons (.same _) .nil)), rfl, by rw [hr]; rfl⟩
  refine PC.rn ZdO ZhW ZhX (rs := [.tmp 6, .tmp 7, .cell 8 28]) (by rw [ZhY]) ?_
  refine ARun.seq (ARun.region ?_)
  refine y_new rfl (n_box rfl rfl rfl) ?_
  refine xa ?_; refine xa ?_
  refine y_new rfl (Zag rfl rfl rfl rfl) ?_
  refine AOps.nil (ARun.seq (ARun.region ?_))
  refine Ze4 rfl rfl rfl ?_
  refine AOps.nil (ARun.seq (ARun.region ?_)); refine xm ?_; refine xm ?_
  refine y_op rfl (ZaB rfl rfl rfl rfl rfl rfl rfl rfl rfl rfl rfl (by decide) (by decide) rfl) ?_
  refine y_gop rfl (g_call rfl rfl (PC.gp (Zdo [xs, ys] 2 rfl))) (fun hg => ?_) (fun q hq => by obtain ⟨hq, rfl⟩ := hq; exact pan 1 _ _ rfl rfl rfl (by simp only [List.all_cons, List.all_nil, Bool.and_true] at hq; simp only [resD, hq, cond_false]))
  simp only [List.all_cons, List.all_nil, Bool.and_true] at hg
  have hres := hg
  rw [Bool.and_eq_true] at hg
  obtain ⟨a, rfl, la⟩ := okNat_lim hx hg.1
  obtain ⟨b, rfl, lb⟩ := okNat_lim hy hg.2
  refine AOps.nil (ARun.seq (ARun.region ?_)); refine xm ?_; refine xN ?_; refine xi ?_
  refine y_gop rfl (g_call rfl rfl (PC.gp (Zcu _ 8))) (fun hz => ?_) (fun q hq => by obtain ⟨hq, rfl⟩ := hq; exact pan 8 _ _ rfl rfl rfl (by have := of_decide_eq_false hq; simp only [resD, hres, cond_true]; rw [if_pos (by omega)]))
  have hz := of_decide_eq_true hz
  have hb0 : 0 < b := Nat.pos_of_ne_zero (ln_pos.1 (by omega))
  have hab : resD (lim a) (lim b) = (a / b, a % b, 0) := by
    simp only [resD, hres, cond_true, val_lim]
    rw [if_neg (by omega)]
  refine AOps.nil (ARun.seq (ARun.region ?_))
  refine y_op rfl (q_fldP rfl rfl rfl (by decide)) ?_
  refine y_op rfl (Zac rfl rfl rfl rfl rfl) ?_
  refine xm ?_; refine xm ?_
  refine xc rfl rfl (ZkM a b la lb hb0) ?_
  refine xm ?_; refine xe ?_; refine xe ?_; refine xa ?_; refine xa ?_; refine AOps.nil (ARun.seq (ARun.region ?_)); refine xm ?_
  refine xc rfl rfl ((Zdp (a / b)).mono (fun o ho => (ho.resolve_right (fun h => h.1 (Nat.le_trans (ln_mono (Nat.div_le_self _ _)) la))).2)) ?_
  refine xm ?_
  refine xc rfl rfl ((Zdp (a % b)).mono (fun o ho => (ho.resolve_right (fun h => h.1 (Nat.le_trans (ln_mono (Nat.mod_le _ _)) la))).2)) ?_
  refine xa ?_; refine xa ?_
  refine y_new rfl (Zad rfl rfl rfl rfl rfl rfl (Nat.le_of_ble_eq_true rfl) rfl) ?_
  refine AOps.nil ?_
  refine ARun.ret ?_
  refine DC.mono (ZeA _ 0) ?_
  rintro _ _ ⟨rfl, rfl⟩
  exact ⟨_, _, _, .tmp rfl (.tmp rfl (ResR.cell1 rfl rfl rfl rfl rfl .nil)), .cons (.same _) (.cons (.same _) (.cons (.same _) .nil)), rfl, by rw [hab]; rfl⟩
theorem Ze8 (xs ys : List Nat) (hx : U32 xs) (hy : U32 ys) : PC C Zeq [sln .u32 xs, sln .u32 ys] (fun o => o = .ret (.tup [numD (resD xs ys).1, numD (resD xs ys).2.1, .int .i64 (resD xs ys).2.2])) := by
  refine PC.rn Zic Zmh Zmi (rs := [.tmp 4, .tmp 5, .tmp 6]) (by rw [Zmj]) ?_
  refine ARun.seq (ARun.region ?_); refine xa ?_; refine xa ?_; refine xa ?_; refine AOps.nil (ARun.seq (ARun.region ?_)); refine xm ?_; refine xm ?_
  refine y_op rfl (Zal rfl rfl rfl rfl rfl) ?_
  refine xc rfl rfl (Zh4 xs ys hx hy) ?_
  refine xe ?_; refine xe ?_; refine xe ?_; refine xa ?_; refine xa ?_; refine xa ?_; refine AOps.nil ?_
  refine ARun.ret ?_
  refine ⟨_, _, _, .tmp rfl (.tmp rfl (.tmp rfl .nil)), .cons (.same _) (.cons (.same _) (.cons (.same _) .nil)), rfl, ?_⟩
  rfl
def resC (xs ys : List Nat) : Int × Int := bif okB xs && okB ys then (cmpI (val xs) (val ys), 0) else (0, 1)
theorem ZmG (xs ys : List Nat) (hx : U32 xs) (hy : U32 ys) : PC C Zne [sln .u32 xs, sln .u32 ys] (fun o => o = .ret (.tup [.int .i64 (resC xs ys).1, .int .i64 (resC xs ys).2])) := by
  have pan : ∀ (e : Int) (env : List D), env[4]? = some (.int .i64 0) → env[5]? = some (.ptr 0 0) → resC xs ys = (0, e) → (QFin C [.tmp 4, .cell 5 28] fun o x => o.pure = true ∧ o = .ret (.tup [.int .i64 (resC xs ys).1, .int .i64 (resC xs ys).2])) (.pan (failN e)) env [some ⟨[.int .i64 0], Zao, 1, true, none⟩] [.fn ZaH [.ptr 0 0]] := by
    intro e env h4 h5 hr
    refine DC.mono (dc0_caught_pan 0 e) ?_
    rintro _ _ ⟨rfl, rfl⟩
    exact ⟨_, _, _, .tmp h4 (ResR.cell1 h5 rfl rfl rfl rfl .nil), .cons (.same _) (.cons (.same _) .nil), rfl, by rw [hr]; rfl⟩
  refine PC.rn Zih Zmx Zmy (rs := [.tmp 4, .cell 5 28]) (by rw [Zmz]) ?_
  refine ARun.seq (ARun.region ?_); refine xa ?_
  refine y_new rfl (Zag rfl rfl rfl rfl) ?_
  refine AOps.nil (ARun.seq (ARun.region ?_))
  refine Ze4 rfl rfl rfl ?_
  refine AOps.nil (ARun.seq (ARun.region ?_)); refine xm ?_; refine xm ?_
  refine y_op rfl (ZaB rfl rfl rfl rfl rfl rfl rfl rfl rfl rfl rfl (by decide) (by decide) rfl) ?_
  refine y_gop rfl (g_call rfl rfl (PC.gp (Zdo [xs, ys] 2 rfl))) (fun hg => ?_) (fun q hq => by obtain ⟨hq, rfl⟩ := hq; exact pan 1 _ rfl rfl (by simp only [List.all_cons, List.all_nil, Bool.and_true] at hq; simp only [resC, hq, cond_false]))
  simp only [List.all_cons, List.all_nil, Bool.and_true] at hg
  have hres := hg
  rw [Bool.and_eq_true] at hg
  obtain ⟨a, rfl, la⟩ := okNat_lim hx hg.1
  obtain ⟨b, rfl, lb⟩ := okNat_lim hy hg.2
  refine AOps.nil (ARun.seq (ARun.region ?_)); refine xm ?_; refine xm ?_
  refine xc rfl rfl (Ze6 a b (by omega) (by omega)) ?_
  refine xa ?_
  refine y_new rfl (Zad rfl rfl rfl rfl rfl rfl (Nat.le_of_ble_eq_true rfl) rfl) ?_
  refine AOps.nil ?_
  refine ARun.ret ?_
  refine DC.mono (dc0_caught_ret 0) ?_
  rintro _ _ ⟨rfl, rfl⟩
  exact ⟨_, _, _, .tmp rfl (ResR.cell1 rfl rfl rfl rfl rfl .nil), .cons (.same _) (.cons (.same _) .nil), rfl, by simp only [resC, hres, cond_true, val_lim]; rfl⟩
theorem Zbd (n : Nat) (hn : n < 18446744073709551616) : PC C ZhC [.int .u64 (n : Int)] (fun o => o = .ret (numD n)) := by
  refine PC.rn Zc7 ZgC ZgD (rs := [.tmp 2]) (by rw [ZgE]) ?_
  refine ARun.seq (ARun.region ?_); refine xa ?_; refine AOps.nil (ARun.seq (ARun.region ?_)); refine xm ?_
  refine xc rfl rfl (ZkF n hn) ?_
  refine xa ?_; refine AOps.nil ?_
  refine ARun.ret ?_
  refine ⟨_, _, _, .tmp rfl .nil, .cons (.same _) .nil, rfl, ?_⟩
  rfl
end Go.V
/- BOXES that are never written. -/
namespace Go.V
open Go.RowKit
instance (priority := low) AppL.any {α : Type} {l : List α} {a : α} : AppL l a l.length (l ++ [a]) := ⟨rfl, rfl⟩
instance (priority := low) PutL.any {α : Type} {l : List α} {i : Nat} {a : α} : PutL l i a (l.set i a) := ⟨rfl⟩
section
variable {C : Ctx} {env : List D} {H : Heap} {dst : Option Tmp} {ty : TypeId} {pos : String} {aft : Array Edge} {gd : Option (Nat × Bool)} {x y z : Operand} {d : D} {T : TypeId}
theorem pures_at {cs : List D} (hp : D.pure.pures cs = true) {j : Nat} {d : D} (hd : cs[j]? = some d) : d.pure = true := by
  have key : ∀ (l : List D) (j : Nat), D.pure.pures l = true → l[j]? = some d → d.pure = true := by
    intro l
    induction l with
    | nil => intro j _ h; simp at h
    | cons c l ih =>
      intro j h hj
      simp only [D.pure.pures, Bool.and_eq_true] at h
      cases j with
      | zero => simp at hj; subst hj; exact h.1
      | succ j => simp only [List.getElem?_cons_succ] at hj; exact ih j h.2 hj
  exact key cs j hp hd
theorem q_boxF {ds : List D} (hx : evO C env x = some d) (hd : cellsD d = some ds) (hk : ds.all (okCell H) = true) (hp : D.pure.pures ds = true) : OpQ C ⟨dst, .box T x, ty, pos, aft, gd⟩ env H (.sptr ds) :=
  OpQ.newF (e := T) fun L0 w μ a hs he => by
    have ex := he _ _ hx
    obtain ⟨v1, v2⟩ := cellsD_ok hd hk ex
    refine ⟨.pointer (some ⟨w.heap.size, 0, none⟩), (a.eval x).cells, by simp [execOp, Instr.box, newVar, newRow], fun hl => ?_⟩
    simp only [VR]
    refine ⟨⟨w.heap.size, 0, none⟩, rfl, by simp, fun hfb => Nat.lt_irrefl _ (hs.forb_lt hfb), VRL_mk fun j d hd => ?_⟩
    obtain ⟨v, k1, k2⟩ := VRs_get v1 hd
    refine ⟨v, ?_, v2 v (List.mem_of_getElem? k1), VR.step (hl.step L0).pure (VR.drop (pures_at hp hd) k2)⟩
    rw [Nat.zero_add, add_lit, cell_row (heap_alloc_new w _)]
    simpa using k1
theorem q_ifEq {U T' T : TypeId} (hi : isIf C.P U = true) (hx : evO C env x = some (.iface T d)) : OpQ C ⟨dst, .binOp .eql U x (.const .nilIface) T', ty, pos, aft, gd⟩ env H (.bool false) :=
  OpQ.of_run fun L w μ a he => by
    have ex := he _ _ hx
    simp only [VR] at ex
    obtain ⟨u, ex, _⟩ := ex
    refine ⟨.bool false, ?_, by simp only [VR]⟩
    have hg : (eqGuard .eql U x (.const .nilIface) (.iface T u) .nilIface).run C.P w = .ok () w := by
      unfold eqGuard; simp
    have ec : a.eval (.const .nilIface) = .nilIface := rfl
    simp only [execOp, ex, ec, Sem.run_bind, hg, Result.andThen_ok, run_ifEq w hi T u, Sem.run_pure]
theorem ZkN {U T' : TypeId} (hi : isIf C.P U = true) (hx : evO C env x = some .niliface) : OpQ C ⟨dst, .binOp .eql U x (.const .nilIface) T', ty, pos, aft, gd⟩ env H (.bool true) :=
  OpQ.of_run fun L w μ a he => by
    have ex := he _ _ hx
    simp only [VR] at ex
    refine ⟨.bool true, ?_, by simp only [VR]⟩
    have hg : (eqGuard .eql U x (.const .nilIface) .nilIface .nilIface).run C.P w = .ok () w := by
      unfold eqGuard; simp
    have ec : a.eval (.const .nilIface) = .nilIface := rfl
    simp only [execOp, ex, ec, Sem.run_bind, hg, Result.andThen_ok, run_ifEqNil w hi, Sem.run_pure]
end
theorem DC.of_run1 {C : Ctx} {f : FuncId} {fn : Func} {id : Nat} {c2 : Code} {args : List D} {H : Heap} {m : AMode} {R : AMode → Heap → Prop} {n : Nat} {t1 : Tmp} {ty1 : TypeId} {p1 : String} {a1 : Array Edge} {at1 : Array TypeId} {env1 : List D}
    (hf : C.P.funcs[f]? = some fn) (hen : Enters C.P f) (hb : fn.body = some (.seq (.region id #[⟨some t1, .call ⟨.builtin .recover, #[], at1⟩, ty1, p1, a1, none⟩] false) c2)) (hn : fn.ntmps = n) (hres : fn.results.toList = [])
    (hm : ∀ d, m ≠ .recovered d) (he1 : envPut (args ++ List.replicate (n - args.length) (.tup [])) (some t1) (recD m).1 = env1)
    (h : ARun C ⟨none, fun x _ H' df => df = [] ∧ match x with | .ret => R (recD m).2 H' | .norm => R (recD m).2 H' | _ => False⟩ [.code c2] env1 H []) : DC C f H args m R := by
  refine ⟨hen, fun L0 w μ vs u hs ha hu c₀ cs hc₀ => ?_⟩
  have hl := VRs_length ha
  let b : Frame := { (default : Frame) with fn := f, kind := .deferred }
  let a : Act := { tmps := vs.toArray ++ Array.replicate (fn.ntmps - vs.toArray.size) undef, defers := [] }
  have henter : Frame.enter C.P f vs.toArray .deferred = b.at a [.code (.seq (.region id #[⟨some t1, .call ⟨.builtin .recover, #[], at1⟩, ty1, p1, a1, none⟩] false) c2)] := by
    simp [Frame.enter, Frame.at, hf, hb, b, a]
  have htm : VRs w (forb L0 μ H) μ H (args ++ List.replicate (n - args.length) (.tup [])) a.tmps.toList := by
    have : a.tmps.toList = vs ++ List.replicate (n - args.length) undef := by
      simp [a, hn, hl]
    rw [this]
    exact VRs_append ha (VRs_repl _)
  have hrec : ∃ (v : Value) (u' : FrameMode), VR w (forb L0 μ H) μ H (recD m).1 v ∧ ModeR w (forb L0 μ H) μ H (recD m).2 u' ∧
      (match recoverD (c₀ :: cs) with | some (v, cs') => (v, cs') | none => (.nilIface, c₀ :: cs)) = (v, { c₀ with mode := u' } :: cs) := by
    cases m with
    | returning =>
      have hu' : u = .returning := hu
      subst hu'
      refine ⟨.nilIface, .returning, by simp [recD, VR], rfl, ?_⟩
      have : c₀ = { c₀ with mode := .returning } := by rw [← hc₀]
      simp only [recoverD, hc₀]
      rw [← this]
    | panicking d =>
      obtain ⟨v, hu', hvd⟩ := hu
      subst hu'
      refine ⟨v, .panicking [{ v := v, recovered := true }], hvd, ⟨v, rfl, hvd⟩, ?_⟩
      simp only [recoverD, hc₀, pan1]
    | recovered d => exact (hm d rfl).elim
  obtain ⟨v, u', hv, hu', hrd⟩ := hrec
  let aa : Act := a.put (some t1) v
  have hv1 : VRs w (forb L0 μ H) μ H env1 (a.put (some t1) v).tmps.toList := by rw [← he1]; exact VRs_put htm hv
  have hstep : ∃ e a' cs' w', (e = .normal ∧ a' = aa ∧ cs' = { c₀ with mode := u' } :: cs ∧ w' = w) ∧ Arrives C.P (lone (b.at a (.inRegion #[⟨some t1, .call ⟨.builtin .recover, #[], at1⟩, ty1, p1, a1, none⟩] [0] :: [.code c2])) (c₀ :: cs) w) b [.code c2] cs' e a' w' := by
    refine wp_opsS (P := C.P) (Q := fun e a' cs' w' => e = .normal ∧ a' = aa ∧ cs' = { c₀ with mode := u' } :: cs ∧ w' = w) [0] a (c₀ :: cs) w ?_ b [.code c2] rfl rfl
    have hro : ∀ (w : World), (execOp a.eval ⟨some t1, .call ⟨.builtin .recover, #[], at1⟩, ty1, p1, a1, none⟩).run C.P w = .ok .recover w := by
      intro w; simp [execOp, resolve, invoke, builtin]
    have fin : ∀ cs', cs' = { c₀ with mode := u' } :: cs → wpOpsS C.P #[⟨some t1, .call ⟨.builtin .recover, #[], at1⟩, ty1, p1, a1, none⟩] (fun e a' cs' w' => e = .normal ∧ a' = aa ∧ cs' = { c₀ with mode := u' } :: cs ∧ w' = w) [] (a.put (some t1) v) cs' w := by
      intro cs' hcs
      simp [wpOpsS, hcs, aa]
    cases hrr : recoverD (c₀ :: cs) with
    | none =>
      rw [hrr] at hrd
      injection hrd with h1 h2
      subst h1
      have := fin (c₀ :: cs) h2
      simpa [wpOpsS, Region.wanted, hro, hrr] using this
    | some p =>
      obtain ⟨pv, pcs⟩ := p
      rw [hrr] at hrd
      injection hrd with h1 h2
      subst h1
      have := fin pcs h2
      simpa [wpOpsS, Region.wanted, hro, hrr] using this
  obtain ⟨e0, a0, cs0, w0, ⟨q1, q2, q3, q4⟩, harr⟩ := hstep
  rw [q1, q2, q3, q4] at harr
  obtain ⟨e, a', w', ⟨x, env, H', μ', df, ⟨hdf, hR⟩, s1, hv', hd', hx', he'⟩, harr2⟩ := h.out L0 w μ H w μ aa hs hv1 rfl (Evo.refl _ _ _) b ({ c₀ with mode := u' } :: cs) rfl
  subst hdf
  have hd0 : a'.defers = [] := hd'
  have hsteps : Steps C.P (lone (b.at a [.code (.seq (.region id #[⟨some t1, .call ⟨.builtin .recover, #[], at1⟩, ty1, p1, a1, none⟩] false) c2)]) (c₀ :: cs) w) (lone (b.at aa [.code c2]) ({ c₀ with mode := u' } :: cs) w) :=
    Steps.trans (.one step_seq) (Steps.trans (.one step_region) harr)
  rw [← henter] at hsteps
  have eAt : b.atR aa [.code c2] = b.at aa [.code c2] := Frame.atR_of_none rfl _ _
  rw [← eAt] at hsteps
  obtain ⟨rv, r1, _⟩ := results_ok s1 hv' (fn := fn) (ds := []) (by rw [hres]; exact .nil)
  have hmode : ModeR w' (forb L0 μ' H') μ' H' (recD m).2 u' := hu'.step (he'.step L0)
  cases x with
  | ret =>
    have hx2 : e = .ret := hx'
    subst hx2
    obtain ⟨k, hst⟩ := harr2
    exact ⟨.returned rv, u', w', { b.atR a' (.code .ret :: k) with mode := .returning }, ⟨rv, (recD m).2, H', μ', rfl, hR, s1, hmode, he'⟩, Steps.trans hsteps (Steps.trans hst (.one (stepR_ret rfl))), rfl, rfl, hd0, fn, hf, r1⟩
  | norm =>
    have hx2 : e = .normal := hx'
    subst hx2
    exact ⟨.returned rv, u', w', { b.atR a' [] with mode := .returning }, ⟨rv, (recD m).2, H', μ', rfl, hR, s1, hmode, he'⟩, Steps.trans hsteps (Steps.trans harr2 (.one (stepR_end rfl))), rfl, rfl, hd0, fn, hf, r1⟩
  | exit id => exact hR.elim
  | pan d => exact hR.elim
end Go.V
namespace Go.V
theorem Zlx {C : Ctx} {env : List D} {H : Heap} {dst : Option Tmp} {ty : TypeId} {pos : String} {aft : Array Edge} {gd : Option (Nat × Bool)} {x : Operand} : OpQ C ⟨dst, .assign x, ty, pos, aft, gd⟩ env H .any :=
  OpQ.of_run fun L w μ a hx => ⟨a.eval x, by simp [execOp], by simp only [VR]⟩
theorem OpQ.cast {C : Ctx} {o : Oper} {env : List D} {H : Heap} {d d' : D} (h : OpQ C o env H d) (e : d = d') : OpQ C o env H d' := e ▸ h
theorem xb {C : Ctx} {Q : Post} {ops : Array Oper} {rest : List Oper} {k : List Item} {env env' : List D} {H : Heap} {df : List ADef} {dst : Option Tmp} {ty : TypeId} {pos : String} {aft : Array Edge} {gd : Option (Nat × Bool)} {d : D} {x : Operand} {T : TypeId} {ds : List D} [hput : Put env dst (.sptr ds) env'] (hk : AOps C Q ops rest k env' H df) (hg : gOk ops.toList env gd = some true := by rfl) (hx : evO C env x = some d := by rfl) (hd : cellsD d = some ds := by rfl) (hok : ds.all (okCell H) = true := by rfl) (hp : D.pure.pures ds = true := by rfl) : AOps C Q ops (⟨dst, .box T x, ty, pos, aft, gd⟩ :: rest) k env H df := y_op hg (q_boxF hx hd hok hp) hk
end Go.V
set_option synthInstance.maxSize 100000
set_option synthInstance.maxHeartbeats 2000000
namespace Go.V
open Go.RowKit Go.Proofs
abbrev failW (e : Int) : D := .iface ZcZ (.agg [.int .i64 e])
theorem Zbe (ok : Bool) (e : Int) : PC C ZjK [.bool ok, .int .i64 e] (fun o => (ok = true ∧ o = .ret (.tup [])) ∨ (ok = false ∧ o = .pan (failW e))) := by
  refine PC.rn Zed ZiM ZiN (rs := []) (by rw [ZiO]) ?_
  refine ARun.seq (ARun.region ?_); refine xm ?_; refine xn ?_; refine AOps.nil ?_
  refine ARun.cond rfl (fun h => ?_) (fun h => ?_)
  · skip
    refine ARun.region ?_; refine xm ?_
    refine y_op rfl (Zal rfl rfl rfl rfl rfl) ?_
    refine y_op rfl (Zhe rfl rfl rfl) ?_
    exact Zlu rfl rfl ⟨_, _, .same _, rfl, .inr ⟨by simpa using h, rfl⟩⟩
  refine ARun.skip ?_
  refine ARun.nil ?_
  refine ⟨_, _, _, .nil, .nil, rfl, ?_⟩
  exact .inl ⟨by simpa using h, rfl⟩
theorem ZkO (n : Nat) (e : Int) : PC C ZaC [numD n, .int .i64 e] (fun o => (e = 0 ∧ o = .ret (numD n)) ∨ (e ≠ 0 ∧ o = .pan (failW e))) := by
  refine PC.rn Zef ZiS ZiT (rs := [.tmp 4]) (by rw [ZiU]) ?_
  refine ARun.seq (ARun.region ?_); refine xa ?_; refine AOps.nil (ARun.seq (ARun.region ?_)); refine xm ?_; refine xi ?_; refine xm ?_
  refine y_gop rfl (g_call rfl rfl (PC.gp (Zbe _ e))) (fun hg => ?_) (fun q hq => by obtain ⟨hq, rfl⟩ := hq; exact ⟨_, _, .same _, rfl, .inr ⟨by simpa using hq, rfl⟩⟩)
  refine AOps.nil (ARun.seq (ARun.region ?_)); refine xm ?_; refine xa ?_; refine AOps.nil ?_
  refine ARun.ret ?_
  refine ⟨_, _, _, .tmp rfl .nil, .cons (.same _) .nil, rfl, ?_⟩
  exact .inl ⟨by simpa using hg, rfl⟩
theorem Zio (n : Nat) : PC C ZaC [numD n, .int .i64 0] (fun o => o = .ret (numD n)) := (ZkO n 0).mono fun o ho => (ho.resolve_right (fun h => h.1 rfl)).2
abbrev intA (b : Bool) (xs : List Nat) : D := .agg [.bool b, sln .u32 xs]
abbrev intD (z : Int) : D := .agg [.bool (decide (z < 0)), numD z.natAbs]
def sgnd (b : Bool) (n : Nat) : Int := bif b then -(n : Int) else n
theorem sgnd_abs (b : Bool) (n : Nat) : (sgnd b n).natAbs = n := by cases b <;> simp [sgnd]
theorem sgnd_neg (b : Bool) (n : Nat) : decide (sgnd b n < 0) = (b && decide (0 < n)) := by
  cases b with
  | true => simp [sgnd]
  | false => simp only [sgnd, cond_false, Bool.false_and]; exact decide_eq_false (by omega)
theorem Zam (b : Bool) (n : Nat) : PC C ZdG [.bool b, numD n] (fun o => o = .ret (intD (sgnd b n))) := by
  have fin : ∀ c : Bool, c = (b && decide (0 < n)) → D.agg [.bool c, numD n] = intD (sgnd b n) := fun c hc => by rw [intD, sgnd_abs, sgnd_neg, hc]
  refine PC.rn Zc6 Zgz ZgA (rs := [.cell 4 25]) (by rw [ZgB]) ?_
  refine ARun.seq (ARun.region ?_)
  refine y_new rfl (Zag rfl rfl rfl rfl) ?_
  refine AOps.nil (ARun.seq (ARun.region ?_)); refine xm ?_; refine xm ?_
  refine AOps.bool 6 rfl (fun h => ?_) (fun h => ?_)
  · skip
    refine xm ?_; refine xN ?_; refine xi ?_; refine xp ?_; refine xm ?_
    refine y_op rfl (Zal rfl rfl rfl rfl rfl) ?_
    refine y_new rfl (Zaa rfl rfl rfl rfl rfl rfl rfl rfl (Nat.le_of_ble_eq_true rfl) rfl) ?_
    refine AOps.nil ?_
    refine ARun.ret ?_
    refine ⟨_, _, _, ResR.cellA rfl rfl rfl rfl rfl rfl .nil, .cons (.same _) .nil, rfl, ?_⟩
    rw [← fin (decide (((lim n).length : Int) > 0)) (by rw [h, Bool.true_and]; exact decide_eq_decide.2 ⟨fun h => by have := ln_pos.1 (show 0 < (lim n).length by omega); omega, fun h => by have := ln_pos.2 (show n ≠ 0 by omega); omega⟩)]
    rfl
  refine xk ?_; refine xk ?_; refine xk ?_; refine xp ?_; refine xm ?_
  refine y_op rfl (Zal rfl rfl rfl rfl rfl) ?_
  refine y_new rfl (Zaa rfl rfl rfl rfl rfl rfl rfl rfl (Nat.le_of_ble_eq_true rfl) rfl) ?_
  refine AOps.nil ?_
  refine ARun.ret ?_
  refine ⟨_, _, _, ResR.cellA rfl rfl rfl rfl rfl rfl .nil, .cons (.same _) .nil, rfl, ?_⟩
  rw [← fin false (by rw [h]; rfl)]
  rfl
end Go.V
