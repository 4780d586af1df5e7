/- A part of the proof: abstract values, rules for the steps of the program's form, and contracts of its functions, each proved; no condition. -/
import Derived.Test.YtjohcjagbodicaaGreatDoorA15
import Derived.Test.YtjohcjagbodicaaGreatDoorTie
import Derived.Test.YtjohcjagbodicaaGreatDoorCards
import Derived.ProofKit
import Derived.OpenShut
import Derived.LaidMore
import Derived.Lay
import Derived.SevenTiedAt
import Derived.Carry
import Derived.Stop.Joined
set_option linter.unusedVariables false
set_option linter.unusedSimpArgs false
/- SEVERAL VARIABLES THAT ARE WRITTEN ONCE, made and written in one statement. -/
namespace Go.V
open Go.RowKit
section
variable {C : Ctx} {Q : Post} {ops : Array Oper} {rest : List Oper} {k : List Item} {env env' : List D} {H : Heap} {df : List ADef}
theorem AS.fix {al : Nat → Option Alc} {pe : Nat → Bool} {j : Nat} {t : Tmp} {T : TypeId} {cs : List D} {order : List Nat} (hj : pe j = true) (hal : al j = some (t, T, cs)) (hpu : D.pure.pures cs = true) (hk : AS C Q ops k (env.set t (.sptr cs)) H df al (fun i => bif Nat.beq i j then false else pe i) order) :
    AS C Q ops k env H df al pe order := by
  refine ⟨fun L0 w0 μ0 H0 w μ a β hβ hf hpd hs hv hdf he b cs2 hrd => ?_⟩
  obtain ⟨p1, cur, p2, p3, p4⟩ := hpd j t T cs hj hal
  let pe' : Nat → Bool := fun i => bif Nat.beq i j then false else pe i
  have hpe : ∀ i, pe' i = true → i ≠ j ∧ pe i = true := fun i hi => by
    by_cases e : i = j
    · subst e; simp only [pe', Nat.beq_refl, cond_true] at hi; cases hi
    · have : Nat.beq i j = false := by
        cases hb : Nat.beq i j with
        | false => rfl
        | true => exact (e (Nat.eq_of_beq_eq_true hb)).elim
      simp only [pe', this, cond_false] at hi
      exact ⟨e, hi⟩
  have hLP : ∀ b', LP L0 β pe' b' → LP L0 β pe b' := by
    rintro b' (h | ⟨i, hi, rfl⟩)
    · exact .inl h
    · exact .inr ⟨i, (hpe i hi).2, rfl⟩
  have st : Step w w (forb (LP L0 β pe) μ H) (forb (LP L0 β pe') μ H) μ μ H H := Step.sub (forb_sub hLP)
  have hno : ¬ forb (LP L0 β pe') μ H (β j) := by
    rintro (h | ⟨i, o, q1, _, q3⟩)
    · rcases h with h | ⟨i, hi, e⟩
      · exact (hf j hj).1 h
      · exact (hpe i hi).1 (hβ i j (hpe i hi).2 hj e)
    · exact (hf j hj).2.2 i o q1 q3
  have hvp : VR w (forb (LP L0 β pe') μ H) μ H (.sptr cs) (.pointer (some ⟨β j, 0, none⟩)) := by
    simp only [VR]
    refine ⟨⟨β j, 0, none⟩, rfl, hs.lim _ (.inr ⟨j, hj, rfl⟩), hno, VRL_mk fun i d hd => ?_⟩
    obtain ⟨v, m1, m2, m3⟩ := p4 i d hd
    exact ⟨v, by rw [Nat.zero_add, add_lit, cell_row p2]; exact m1, m2, VR.step st.pure (VR.drop (pures_at hpu hd) m3)⟩
  have hv' : VRs w (forb (LP L0 β pe') μ H) μ H (env.set t (.sptr cs)) a.tmps.toList := by
    refine VRs_mk (by rw [VRs_length hv]; simp) fun i d v h1 h2 => ?_
    by_cases e : t = i
    · subst e
      rw [p1] at h2
      injection h2 with h2
      subst h2
      rw [List.getElem?_set] at h1
      simp only [if_true] at h1
      split at h1
      · injection h1 with h1; subst h1; exact hvp
      · cases h1
    · rw [List.getElem?_set_ne e] at h1
      obtain ⟨v', k1, k2⟩ := VRs_get hv h1
      rw [h2] at k1
      injection k1 with k1
      subst k1
      exact VR.step st k2
  exact hk.out L0 w0 μ0 H0 w μ a β (fun i1 i2 q1 q2 q3 => hβ i1 i2 (hpe i1 q1).2 (hpe i2 q2).2 q3) (fun i hi => hf i (hpe i hi).2)
    (fun i t' T' cs' hi hali => by
      obtain ⟨r1, cur', r2, r3, r4⟩ := hpd i t' T' cs' (hpe i hi).2 hali
      exact ⟨r1, cur', r2, r3, fun i2 d2 hd2 => by
        obtain ⟨v, m1, m2, m3⟩ := r4 i2 d2 hd2
        exact ⟨v, m1, m2, VR.step st m3⟩⟩)
    (hs.shrink hLP) hv' (DfR.step st hdf) he b cs2 hrd
/-- Where an object is made, and what is stored to it. -/
structure AlW (C : Ctx) (env : List D) (t : Tmp) (T : TypeId) (y : Operand) (te : TE) (zs ds : List D) : Prop where
  ty : C.ty T = some te
  z : ∃ dz, constD te.zero = some dz ∧ cellsD dz = some zs
  zk : zs.all (okCell []) = true
  zl : zs.length = te.size
  y : ∃ d, evO C env y = some d ∧ cellsD d = some ds
  n : ds.length = te.size
  ok : ds.all (okCell []) = true
  pu : D.pure.pures ds = true
  tl : t < env.length
theorem alW {t : Tmp} {T : TypeId} {y : Operand} {te : TE} {zs ds : List D} {dz d : D} (ht : C.ty T = some te) (hz : constD te.zero = some dz) (hzs : cellsD dz = some zs) (hzk : zs.all (okCell []) = true) (hzl : zs.length = te.size) (hy : evO C env y = some d) (hc : cellsD d = some ds) (hn : ds.length = te.size) (hok : ds.all (okCell []) = true) (hpu : D.pure.pures ds = true) (htl : Nat.blt t env.length = true) : AlW C env t T y te zs ds :=
  ⟨ht, ⟨dz, hz, hzs⟩, hzk, hzl, ⟨d, hy, hc⟩, hn, hok, hpu, Nat.le_of_ble_eq_true htl⟩
variable {t1 t2 t3 : Tmp} {T1 T2 T3 : TypeId} {y1 y2 y3 : Operand} {te1 te2 te3 : TE} {zs1 ds1 zs2 ds2 zs3 ds3 : List D} {u1 u2 u3 v1 v2 v3 : TypeId} {p1 p2 p3 q1 q2 q3 : String} {a1 a2 a3 b1 b2 b3 : Array Edge}
theorem y_allocF2 {e1 e2 e3 : List D} [hp1 : Put env (some t1) .any e1] [hp2 : Put e1 (some t2) .any e2] (h1 : AlW C e2 t1 T1 y1 te1 zs1 ds1) (h2 : AlW C e2 t2 T2 y2 te2 zs2 ds2) (n12 : Nat.beq t1 t2 = false) [hp3 : Put e2 (some t1) (.sptr ds1) e3] [hp4 : Put e3 (some t2) (.sptr ds2) env'] (hk : AOps C Q ops rest k env' H df) :
    AOps C Q ops (⟨some t1, .alloc T1, u1, p1, a1, none⟩ :: ⟨some t2, .alloc T2, u2, p2, a2, none⟩ :: ⟨none, .store T1 (.tmp t1) y1, v1, q1, b1, none⟩ :: ⟨none, .store T2 (.tmp t2) y2, v2, q2, b2, none⟩ :: rest) k env H df := by
  obtain ⟨dz1, z1, z1'⟩ := h1.z
  obtain ⟨d1, w1, w1'⟩ := h1.y
  have l1 : t1 < env.length := by have := h1.tl; rw [← hp2.eq, ← hp1.eq] at this; simpa [envPut] using this
  obtain ⟨dz2, z2, z2'⟩ := h2.z
  obtain ⟨d2, w2, w2'⟩ := h2.y
  have l2 : t2 < e1.length := by have := h2.tl; rw [← hp2.eq] at this; simpa [envPut] using this
  have m12 : t1 ≠ t2 := fun e => by rw [e, Nat.beq_refl] at n12; cases n12
  refine ⟨fun i hi => ?_⟩
  have i1 := hi
  have o1 := drop_get i1
  have i2 := drop_next i1
  rw [Array.getElem?_toList] at o1
  have o2 := drop_get i2
  have i3 := drop_next i2
  rw [Array.getElem?_toList] at o2
  have o3 := drop_get i3
  have i4 := drop_next i3
  rw [Array.getElem?_toList] at o3
  have o4 := drop_get i4
  have i5 := drop_next i4
  rw [Array.getElem?_toList] at o4
  have b12 : Nat.beq (i) (i + 1) = false := by cases h : Nat.beq (i) (i + 1) with | false => rfl | true => have := Nat.eq_of_beq_eq_true h; omega
  have b21 : Nat.beq (i + 1) (i) = false := by cases h : Nat.beq (i + 1) (i) with | false => rfl | true => have := Nat.eq_of_beq_eq_true h; omega
  let al : Nat → Option Alc := fun j => bif Nat.beq j (i) then some (t1, T1, zs1) else bif Nat.beq j (i + 1) then some (t2, T2, zs2) else none
  refine ARun.ofAS (al := al) (pe := fun _ => false) (fun _ => rfl) ?_
  simp only [List.length_cons, List.range'_succ]
  refine AS.alloc o1 h1.ty z1 z1' h1.zk (by simp only [upd, al, b12, b21, Nat.beq_refl, cond_true, cond_false]) (by simp only [upd, al, b12, b21, Nat.beq_refl, cond_true, cond_false]) (fun j t' T cs h h' => ?_) l1 ?_
  · cases h
  rw [hp1.eq]
  refine AS.alloc o2 h2.ty z2 z2' h2.zk (by simp only [upd, al, b12, b21, Nat.beq_refl, cond_true, cond_false]) (by simp only [upd, al, b12, b21, Nat.beq_refl, cond_true, cond_false]) (fun j t' T cs h h' => ?_) l2 ?_
  · by_cases e1 : j = i
    · subst e1; simp only [al, b12, b21, Nat.beq_refl, cond_true, cond_false] at h'; injection h' with h'; injection h' with h' _; rw [← h']; exact fun e => m12 e.symm
    rw [upd_ne _ e1] at h; cases h
  rw [hp2.eq]
  refine AS.stp (j := i) o3 h1.ty (by simp only [upd, al, b12, b21, Nat.beq_refl, cond_true, cond_false]) (by simp only [upd, al, b12, b21, Nat.beq_refl, cond_true, cond_false]) w1 w1' h1.n (Nat.le_of_eq h1.zl.symm) h1.ok h1.pu ?_
  refine AS.stp (j := i + 1) o4 h2.ty (by simp only [upd, al, b12, b21, Nat.beq_refl, cond_true, cond_false]) (by simp only [upd, al, b12, b21, Nat.beq_refl, cond_true, cond_false]) w2 w2' h2.n (Nat.le_of_eq h2.zl.symm) h2.ok h2.pu ?_
  refine AS.fix (j := i) (t := t1) (T := T1) (cs := ds1) (by simp only [upd, al, b12, b21, Nat.beq_refl, cond_true, cond_false]) (by simp only [upd, al, b12, b21, Nat.beq_refl, cond_true, cond_false]) h1.pu ?_
  refine AS.fix (j := i + 1) (t := t2) (T := T2) (cs := ds2) (by simp only [upd, al, b12, b21, Nat.beq_refl, cond_true, cond_false]) (by simp only [upd, al, b12, b21, Nat.beq_refl, cond_true, cond_false]) h2.pu ?_
  refine AS.run (fun j => ?_) ?_
  · by_cases e1 : j = i
    · subst e1; simp only [upd, al, b12, b21, Nat.beq_refl, cond_true, cond_false]
    by_cases e2 : j = i + 1
    · subst e2; simp only [upd, al, b12, b21, Nat.beq_refl, cond_true, cond_false]
    have c1 : Nat.beq j (i) = false := by cases h : Nat.beq j (i) with | false => rfl | true => exact (e1 (Nat.eq_of_beq_eq_true h)).elim
    have c2 : Nat.beq j (i + 1) = false := by cases h : Nat.beq j (i + 1) with | false => rfl | true => exact (e2 (Nat.eq_of_beq_eq_true h)).elim
    simp only [upd, c1, c2, cond_false]
  · have x1 := hp3.eq
    have x2 := hp4.eq
    simp only [envPut] at x1 x2
    rw [x1, x2]
    exact hk.out _ i5
end
end Go.V

set_option maxHeartbeats 4000000
set_option maxRecDepth 100000
set_option synthInstance.maxSize 100000
set_option synthInstance.maxHeartbeats 2000000
namespace Go.V
open Go.RowKit Go.Proofs

theorem fz_div0 {H : Heap} (e : Int) : Fz H (.agg [.bool false, .nilsl, .bool false, .nilsl, .int .i64 e]) (divD 0 0 e) [] := by
  have h : divD 0 0 e = .agg [.bool false, .sl 0 [], .bool false, .sl 0 [], .int .i64 e] := by show D.agg [.bool (decide ((0 : Int) < 0)), sln .u32 (lim 0), .bool (decide ((0 : Int) < 0)), sln .u32 (lim 0), _] = _; rw [lim_zero]; rfl
  rw [h]
  exact .agg (.cons (.same _) (.cons .nil (.cons (.same _) (.cons .nil (.cons (.same _) .nil)))))
theorem kindF_none {how : Int} : kindF how = none ↔ how < 1 ∨ 4 < how := by
  unfold kindF
  repeat' split
  all_goals simp
  all_goals omega
theorem q_intNeF {C : Ctx} {dst : Option Tmp} {x y : Operand} {xt yt ty : TypeId} {pos : String} {aft : Array Edge} {gd : Option (Nat × Bool)} {env : List D} {H : Heap} {k : IntKind} {m n : Int} (hx : evO C env x = some (.int k m)) (hy : evO C env y = some (.int k n)) (h : m = n) : OpQ C ⟨dst, .binOp .neq xt x y yt, ty, pos, aft, gd⟩ env H (.bool false) :=
  o_int hx hy (by subst h; simp [intBin])
abbrev divE (r : (Int × Int) × Int) : D := divD r.1.1 r.1.2 r.2
theorem pc_s_Div (d1 d2 : Bool × List Nat) (h1 : U32 d1.2) (h2 : U32 d2.2) (how : Int) : PC C n_R02_Div [intA d1.1 d1.2, intA d2.1 d2.2, .int .i64 how] (fun o => o = .ret (divE (divR how ([d1, d2].all okI) (valI d1) (valI d2)))) := by
  have hbad : [d1, d2].all okI = false ∨ how < 1 ∨ 4 < how → divR how ([d1, d2].all okI) (valI d1) (valI d2) = ((0, 0), 1) := by
    intro h
    unfold divR
    cases hc : [d1, d2].all okI with
    | false => rfl
    | true => rw [if_pos (kindF_none.2 (h.resolve_left (by rw [hc]; decide)))]; rfl
  refine PC.run fn_R02_Div en_R02_Div rfl nt_R02_Div rfl (rs := [.cell 6 32]) (by rw [rs_R02_Div]) (by simp only [List.length_cons, List.length_nil, Nat.reduceAdd, Nat.reduceSub, List.replicate_succ, List.replicate_zero, List.cons_append, List.nil_append]; exact rfl) ?_
  refine ARun.seq ?_
  refine ARun.region ?_
  refine y_op rfl (q_boxF rfl rfl rfl rfl) ?_
  refine y_op rfl (q_boxF rfl rfl rfl rfl) ?_
  refine y_new rfl (n_alloc rfl rfl rfl rfl) ?_
  refine AOps.nil ?_
  refine ARun.seq ?_
  refine ARun.seq ?_
  refine ARun.region ?_
  refine y_op rfl (q_loadAgg rfl rfl rfl rfl rfl) ?_
  refine y_op rfl (q_call rfl rfl (pc_s_Valid d1)) ?_
  refine y_op rfl (q_not rfl) ?_
  refine y_op rfl (q_move rfl) ?_
  -- guard: slot 10
  refine AOps.bool 10 rfl (fun g1 => ?_) (fun g1 => ?_)
  · skip
    have g1 : okI d1 = false := by simpa using g1
    have hc : [d1, d2].all okI = false := by simp only [List.all_cons, g1, Bool.false_and]
    refine y_skip rfl ?_
    refine y_skip rfl ?_
    refine y_skip rfl ?_
    refine y_op rfl (q_pick rfl rfl rfl rfl) ?_
    refine y_op rfl (q_move rfl) ?_
    -- guard: slot 15
    refine y_skip rfl ?_
    refine y_skip rfl ?_
    refine y_op rfl (q_pick rfl rfl rfl rfl) ?_
    refine y_op rfl (q_move rfl) ?_
    -- guard: slot 19
    refine y_skip rfl ?_
    refine y_skip rfl ?_
    refine y_op rfl (q_pick rfl rfl rfl rfl) ?_
    refine AOps.nil ?_
    -- COND on ('t', 22)
    refine ARun.condT rfl ?_
    refine ARun.seq ?_
    refine ARun.region ?_
    refine y_op rfl (q_build rfl rfl rfl rfl rfl) ?_
    refine y_new rfl (n_storeN rfl rfl rfl rfl rfl rfl rfl rfl (Nat.le_of_ble_eq_true rfl) rfl) ?_
    refine AOps.nil ?_
    -- RET results [('cell', 6, 32)]
    refine ARun.ret ?_
    refine ⟨_, _, _, ResR.cellA rfl rfl rfl rfl rfl rfl .nil, .cons (fz_div0 1) .nil, rfl, ?_⟩
    rw [hbad (.inl hc)]; rfl
  · skip
    have g1 : okI d1 = true := by simpa using g1
    refine y_op rfl (q_loadAgg rfl rfl rfl rfl rfl) ?_
    refine y_op rfl (q_call rfl rfl (pc_s_Valid d2)) ?_
    refine y_op rfl (q_not rfl) ?_
    refine y_op rfl (q_pick rfl rfl rfl rfl) ?_
    refine y_op rfl (q_move rfl) ?_
    -- guard: slot 15
    refine AOps.bool 15 rfl (fun g2 => ?_) (fun g2 => ?_)
    · skip
      have g2 : okI d2 = false := by simpa using g2
      have hc : [d1, d2].all okI = false := by simp only [List.all_cons, g1, g2, Bool.false_and, Bool.and_false]
      refine y_skip rfl ?_
      refine y_skip rfl ?_
      refine y_op rfl (q_pick rfl rfl rfl rfl) ?_
      refine y_op rfl (q_move rfl) ?_
      -- guard: slot 19
      refine y_skip rfl ?_
      refine y_skip rfl ?_
      refine y_op rfl (q_pick rfl rfl rfl rfl) ?_
      refine AOps.nil ?_
      -- COND on ('t', 22)
      refine ARun.condT rfl ?_
      refine ARun.seq ?_
      refine ARun.region ?_
      refine y_op rfl (q_build rfl rfl rfl rfl rfl) ?_
      refine y_new rfl (n_storeN rfl rfl rfl rfl rfl rfl rfl rfl (Nat.le_of_ble_eq_true rfl) rfl) ?_
      refine AOps.nil ?_
      -- RET results [('cell', 6, 32)]
      refine ARun.ret ?_
      refine ⟨_, _, _, ResR.cellA rfl rfl rfl rfl rfl rfl .nil, .cons (fz_div0 1) .nil, rfl, ?_⟩
      rw [hbad (.inl hc)]; rfl
    · skip
      have g2 : okI d2 = true := by simpa using g2
      have hc : [d1, d2].all okI = true := by simp only [List.all_cons, List.all_nil, g1, g2, Bool.and_true]
      refine y_op rfl (q_move rfl) ?_
      refine y_op rfl (q_int rfl rfl rfl) ?_
      refine y_op rfl (q_pick rfl rfl rfl rfl) ?_
      refine y_op rfl (q_move rfl) ?_
      -- guard: slot 19
      refine AOps.bool 19 rfl (fun g3 => ?_) (fun g3 => ?_)
      · skip
        have g3 := of_decide_eq_true g3
        refine y_skip rfl ?_
        refine y_skip rfl ?_
        refine y_op rfl (q_pick rfl rfl rfl rfl) ?_
        refine AOps.nil ?_
        -- COND on ('t', 22)
        refine ARun.condT rfl ?_
        refine ARun.seq ?_
        refine ARun.region ?_
        refine y_op rfl (q_build rfl rfl rfl rfl rfl) ?_
        refine y_new rfl (n_storeN rfl rfl rfl rfl rfl rfl rfl rfl (Nat.le_of_ble_eq_true rfl) rfl) ?_
        refine AOps.nil ?_
        -- RET results [('cell', 6, 32)]
        refine ARun.ret ?_
        refine ⟨_, _, _, ResR.cellA rfl rfl rfl rfl rfl rfl .nil, .cons (fz_div0 1) .nil, rfl, ?_⟩
        rw [hbad (.inr (.inl g3))]; rfl
      · skip
        have g3 := of_decide_eq_false g3
        refine y_op rfl (q_move rfl) ?_
        refine y_op rfl (q_int rfl rfl rfl) ?_
        refine y_op rfl (q_pick rfl rfl rfl rfl) ?_
        refine AOps.nil ?_
        -- COND on ('t', 22)
        refine ARun.cond rfl (fun g4 => ?_) (fun g4 => ?_)
        · skip
          have g4 := of_decide_eq_true g4
          refine ARun.seq ?_
          refine ARun.region ?_
          refine y_op rfl (q_build rfl rfl rfl rfl rfl) ?_
          refine y_new rfl (n_storeN rfl rfl rfl rfl rfl rfl rfl rfl (Nat.le_of_ble_eq_true rfl) rfl) ?_
          refine AOps.nil ?_
          -- RET results [('cell', 6, 32)]
          refine ARun.ret ?_
          refine ⟨_, _, _, ResR.cellA rfl rfl rfl rfl rfl rfl .nil, .cons (fz_div0 1) .nil, rfl, ?_⟩
          rw [hbad (.inr (.inr g4))]; rfl
        · skip
          have g4 := of_decide_eq_false g4
          have hk : kindF how ≠ none := fun e => by rcases kindF_none.1 e with h | h <;> omega
          obtain ⟨x, y, rfl, f1, rfl, f2⟩ := okI2 h1 h2 hc
          rw [hc, valI_int, valI_int]
          refine ARun.skip ?_
          refine ARun.seq ?_
          refine ARun.seq ?_
          refine ARun.region ?_
          refine y_op rfl (q_fldS rfl rfl rfl (by decide)) ?_
          refine y_op rfl (q_load rfl rfl rfl rfl) ?_
          refine y_op rfl (q_lenSl rfl rfl) ?_
          refine y_op rfl (q_int rfl rfl rfl) ?_
          refine AOps.nil ?_
          -- COND on ('t', 27)
          refine ARun.cond rfl (fun g5 => ?_) (fun g5 => ?_)
          · skip
            have hy : y = 0 := by
              have g5 : ((lim y.natAbs).length : Int) = 0 := by simpa using g5
              apply Classical.byContradiction
              intro hn
              have := ln_pos.2 (show y.natAbs ≠ 0 by omega)
              omega
            refine ARun.seq ?_
            refine ARun.region ?_
            refine y_op rfl (q_build rfl rfl rfl rfl rfl) ?_
            refine y_new rfl (n_storeN rfl rfl rfl rfl rfl rfl rfl rfl (Nat.le_of_ble_eq_true rfl) rfl) ?_
            refine AOps.nil ?_
            -- RET results [('cell', 6, 32)]
            refine ARun.ret ?_
            refine ⟨_, _, _, ResR.cellA rfl rfl rfl rfl rfl rfl .nil, .cons (fz_div0 8) .nil, rfl, ?_⟩
            unfold divR
            rw [cond_true, if_neg hk, if_pos hy]; rfl
          · skip
            have hy : y ≠ 0 := by
              rintro rfl
              rw [show (0 : Int).natAbs = 0 from rfl, lim_zero] at g5
              cases g5
            refine ARun.skip ?_
            refine ARun.seq ?_
            refine ARun.region ?_
            refine y_op rfl (q_loadAgg rfl rfl rfl rfl rfl) ?_
            refine y_op rfl (q_loadAgg rfl rfl rfl rfl rfl) ?_
            refine y_op rfl (q_move rfl) ?_
            refine y_op rfl (q_call rfl rfl (pc_s_Quotient x y how (by unfold fitZ at f1; omega) (by unfold fitZ at f2; omega) hy)) ?_
            refine y_new rfl (n_storeN rfl rfl rfl rfl rfl rfl rfl rfl (Nat.le_of_ble_eq_true rfl) rfl) ?_
            refine AOps.nil ?_
            -- RET results [('cell', 6, 32)]
            refine ARun.ret ?_
            refine ⟨_, _, _, ResR.cellA rfl rfl rfl rfl rfl rfl .nil, .cons (.same _) .nil, rfl, ?_⟩
            unfold divR
            rw [cond_true, if_neg hk, if_neg hy]; rfl
theorem pc_l_Divides (d1 d2 : Bool × List Nat) (h1 : U32 d1.2) (h2 : U32 d2.2) (how : Int) : PC C n_law02_WholeDivides [intA d1.1 d1.2, intA d2.1 d2.2, .int .i64 how] (fun o => o = .ret (.bool true)) := by
  refine PC.run fn_law02_WholeDivides en_law02_WholeDivides rfl nt_law02_WholeDivides rfl (rs := [.tmp 6]) (by rw [rs_law02_WholeDivides]) (by simp only [List.length_cons, List.length_nil, Nat.reduceAdd, Nat.reduceSub, List.replicate_succ, List.replicate_zero, List.cons_append, List.nil_append]; exact rfl) ?_
  refine ARun.seq ?_
  refine ARun.region ?_
  refine y_op rfl (q_boxF rfl rfl rfl rfl) ?_
  refine y_op rfl (q_boxF rfl rfl rfl rfl) ?_
  refine y_op rfl (q_assign rfl) ?_
  refine AOps.nil ?_
  refine ARun.seq ?_
  refine ARun.seq ?_
  refine ARun.region ?_
  refine y_op rfl (q_loadAgg rfl rfl rfl rfl rfl) ?_
  refine y_op rfl (q_call rfl rfl (pc_l_small d1 40)) ?_
  refine y_op rfl (q_not rfl) ?_
  refine y_op rfl (q_move rfl) ?_
  -- guard: slot 19
  refine AOps.bool 19 rfl (fun g1 => ?_) (fun g1 => ?_)
  · skip
    refine y_skip rfl ?_
    refine y_skip rfl ?_
    refine y_skip rfl ?_
    refine y_op rfl (q_pick rfl rfl rfl rfl) ?_
    refine AOps.nil ?_
    -- COND on ('t', 23)
    refine ARun.condT rfl ?_
    refine ARun.seq ?_
    refine ARun.region ?_
    refine y_op rfl (q_call rfl rfl (pc_l_awake)) ?_
    refine y_op rfl (q_assign rfl) ?_
    refine AOps.nil ?_
    -- RET results [(6,)]
    refine ARun.ret ?_
    refine ⟨_, _, _, .tmp rfl .nil, .cons (.same _) .nil, rfl, ?_⟩
    rfl
  · skip
    refine y_op rfl (q_loadAgg rfl rfl rfl rfl rfl) ?_
    refine y_op rfl (q_call rfl rfl (pc_l_small d2 40)) ?_
    refine y_op rfl (q_not rfl) ?_
    refine y_op rfl (q_pick rfl rfl rfl rfl) ?_
    refine AOps.nil ?_
    -- COND on ('t', 23)
    refine ARun.cond rfl (fun g2 => ?_) (fun g2 => ?_)
    · skip
      refine ARun.seq ?_
      refine ARun.region ?_
      refine y_op rfl (q_call rfl rfl (pc_l_awake)) ?_
      refine y_op rfl (q_assign rfl) ?_
      refine AOps.nil ?_
      -- RET results [(6,)]
      refine ARun.ret ?_
      refine ⟨_, _, _, .tmp rfl .nil, .cons (.same _) .nil, rfl, ?_⟩
      rfl
    · skip
      refine ARun.skip ?_
      refine ARun.seq ?_
      refine ARun.seq ?_
      refine ARun.region ?_
      refine y_op rfl (q_assign rfl) ?_
      refine AOps.nil ?_
      refine ARun.block ?_
      -- LOOP writes [6, 7, 8, 9, 10, 11, 25, 26, 27, 28, 29, 30, 31, 32, 33, 34, 35, 36, 37, 38, 39, 40, 41, 42, 43, 44, 45, 46, 47, 48, 49, 50, 51, 52, 53, 54, 55, 56, 57, 58]
      refine ARun.loopI (S := Int) (fun k : Int => [(6, .any), (8, .any), (9, .any), (10, .any), (11, .any), (25, .any), (26, .any), (27, .any), (28, .any), (29, .any), (30, .any), (31, .any), (32, .any), (33, .any), (34, .any), (35, .any), (36, .any), (37, .any), (38, .any), (39, .any), (40, .any), (41, .any), (42, .any), (43, .any), (44, .any), (45, .any), (46, .any), (47, .any), (48, .any), (49, .any), (50, .any), (51, .any), (52, .any), (53, .any), (54, .any), (55, .any), (56, .any), (57, .any), (58, .any), (7, .int .i64 k)]) (fun k : Int => []) (fun k : Int => 1 ≤ k ∧ k ≤ 5) (fun k : Int => (5 - k).toNat) (1) ?_ ?_ ?_ ?_
      · exact ⟨by decide, by decide⟩
      · (repeat' first | exact envLe_nil | apply envLe_any | apply envLe_same)
      · rfl
      rintro k hinv ih
      obtain ⟨k1, k2⟩ := hinv
      refine ARun.seq ?_
      refine ARun.seq ?_
      refine ARun.region ?_
      refine y_op rfl (q_move rfl) ?_
      refine y_op rfl (q_int rfl rfl rfl) ?_
      refine AOps.nil ?_
      -- COND on ('t', 26)
      refine ARun.ite rfl (fun h => ?_) (fun h => ?_)
      · skip
        refine ARun.skip ?_
        refine ARun.seq ?_
        refine ARun.block ?_
        refine ARun.seq ?_
        refine ARun.region ?_
        refine y_op rfl (q_loadAgg rfl rfl rfl rfl rfl) ?_
        refine y_op rfl (q_loadAgg rfl rfl rfl rfl rfl) ?_
        refine y_op rfl (q_move rfl) ?_
        refine y_op rfl (q_call rfl rfl (pc_w_Div d1 d2 h1 h2 k)) ?_
        refine y_op rfl (q_move rfl) ?_
        refine y_op rfl (q_extract rfl rfl) ?_
        refine y_op rfl (q_extract rfl rfl) ?_
        refine y_op rfl (q_extract rfl rfl) ?_
        refine y_allocF2 (alW rfl rfl rfl rfl rfl rfl rfl rfl rfl rfl rfl) (alW rfl rfl rfl rfl rfl rfl rfl rfl rfl rfl rfl) rfl ?_
        refine y_op rfl (q_assign rfl) ?_
        refine AOps.nil ?_
        refine ARun.seq ?_
        refine ARun.region ?_
        refine y_op rfl (q_loadAgg rfl rfl rfl rfl rfl) ?_
        refine y_op rfl (q_loadAgg rfl rfl rfl rfl rfl) ?_
        refine y_op rfl (q_move rfl) ?_
        refine y_op rfl (q_call rfl rfl (pc_s_Div d1 d2 h1 h2 k)) ?_
        refine y_allocF rfl rfl rfl rfl rfl rfl rfl rfl rfl rfl rfl ?_
        refine AOps.nil ?_
        refine ARun.seq ?_
        refine ARun.region ?_
        refine y_op rfl (q_move rfl) ?_
        refine y_op rfl (q_fldS rfl rfl rfl (by decide)) ?_
        refine y_op rfl (q_load rfl rfl rfl rfl) ?_
        refine y_op rfl (q_intNeF rfl rfl rfl) ?_
        refine y_op rfl (q_move rfl) ?_
        -- guard: slot 45
        refine y_op rfl (q_loadAgg rfl rfl rfl rfl rfl) ?_
        refine y_op rfl (q_fldS rfl rfl rfl (by decide)) ?_
        refine y_op rfl (q_loadAgg rfl rfl rfl rfl rfl) ?_
        refine y_op rfl (q_call rfl rfl (same_T _)) ?_
        refine y_op rfl (q_not rfl) ?_
        refine y_op rfl (q_pick rfl rfl rfl rfl) ?_
        refine y_op rfl (q_move rfl) ?_
        -- guard: slot 52
        refine y_op rfl (q_loadAgg rfl rfl rfl rfl rfl) ?_
        refine y_op rfl (q_fldS rfl rfl rfl (by decide)) ?_
        refine y_op rfl (q_loadAgg rfl rfl rfl rfl rfl) ?_
        refine y_op rfl (q_call rfl rfl (same_T _)) ?_
        refine y_op rfl (q_not rfl) ?_
        refine y_op rfl (q_pick rfl rfl rfl rfl) ?_
        refine AOps.nil ?_
        -- COND on ('t', 58)
        refine ARun.condF rfl ?_
        refine ARun.skip ?_
        refine ARun.inBlock ?_
        refine ARun.region ?_
        refine y_op rfl (q_move rfl) ?_
        refine y_op rfl (q_add rfl rfl (IntWalk.i64_in _ (by omega))) ?_
        refine y_op rfl (q_assign rfl) ?_
        refine AOps.nil ?_
        -- LOOP's end
        refine ARun.again (ih (k + 1) ?_ ?_) ?_ ?_
        · exact ⟨by omega, by omega⟩
        · omega
        · (repeat' first | exact envLe_nil | apply envLe_any | apply envLe_same)
        · rfl
      · skip
        refine ARun.exit rfl ?_
        refine ARun.seq ?_
        refine ARun.region ?_
        refine y_op rfl (q_loadAgg rfl rfl rfl rfl rfl) ?_
        refine y_op rfl (q_loadAgg rfl rfl rfl rfl rfl) ?_
        refine y_op rfl (q_move rfl) ?_
        refine y_op rfl (q_call rfl rfl (pc_w_Div d1 d2 h1 h2 how)) ?_
        refine y_op rfl (q_move rfl) ?_
        refine y_op rfl (q_extract rfl rfl) ?_
        refine y_op rfl (q_extract rfl rfl) ?_
        refine y_op rfl (q_extract rfl rfl) ?_
        refine y_allocF2 (alW rfl rfl rfl rfl rfl rfl rfl rfl rfl rfl rfl) (alW rfl rfl rfl rfl rfl rfl rfl rfl rfl rfl rfl) rfl ?_
        refine y_op rfl (q_assign rfl) ?_
        refine AOps.nil ?_
        refine ARun.seq ?_
        refine ARun.region ?_
        refine y_op rfl (q_loadAgg rfl rfl rfl rfl rfl) ?_
        refine y_op rfl (q_loadAgg rfl rfl rfl rfl rfl) ?_
        refine y_op rfl (q_move rfl) ?_
        refine y_op rfl (q_call rfl rfl (pc_s_Div d1 d2 h1 h2 how)) ?_
        refine y_allocF rfl rfl rfl rfl rfl rfl rfl rfl rfl rfl rfl ?_
        refine AOps.nil ?_
        refine ARun.seq ?_
        refine ARun.region ?_
        refine y_op rfl (q_call rfl rfl (pc_l_awake)) ?_
        refine y_op rfl (q_move rfl) ?_
        -- guard: slot 72
        refine y_op rfl (q_move rfl) ?_
        refine y_op rfl (q_fldS rfl rfl rfl (by decide)) ?_
        refine y_op rfl (q_load rfl rfl rfl rfl) ?_
        refine y_op rfl (q_intEqT rfl rfl rfl) ?_
        refine y_op rfl (q_pick rfl rfl rfl rfl) ?_
        refine y_op rfl (q_move rfl) ?_
        -- guard: slot 78
        refine y_op rfl (q_loadAgg rfl rfl rfl rfl rfl) ?_
        refine y_op rfl (q_fldS rfl rfl rfl (by decide)) ?_
        refine y_op rfl (q_loadAgg rfl rfl rfl rfl rfl) ?_
        refine y_op rfl (q_call rfl rfl (same_T _)) ?_
        refine y_op rfl (q_pick rfl rfl rfl rfl) ?_
        refine y_op rfl (q_move rfl) ?_
        -- guard: slot 84
        refine y_op rfl (q_loadAgg rfl rfl rfl rfl rfl) ?_
        refine y_op rfl (q_fldS rfl rfl rfl (by decide)) ?_
        refine y_op rfl (q_loadAgg rfl rfl rfl rfl rfl) ?_
        refine y_op rfl (q_call rfl rfl (same_T _)) ?_
        refine y_op rfl (q_pick rfl rfl rfl rfl) ?_
        refine y_op rfl (q_assign rfl) ?_
        refine AOps.nil ?_
        -- RET results [(6,)]
        refine ARun.ret ?_
        refine ⟨_, _, _, .tmp rfl .nil, .cons (.same _) .nil, rfl, ?_⟩
        rfl
end Go.V


/- THE ROWS: what the arguments read as, and what is left behind a call. -/
set_option maxRecDepth 100000
namespace Go.V
open Go.RowKit Go.Proofs Go.ChangeShapes Go.WideShapes Go.ChangeAt Go.ChangeMaps

theorem laidOutZ : laidOutB Tryz.prog = true := by kernel_rfl
theorem ownZ : ownKnob Tryz.prog.godebug = none := by kernel_rfl
theorem cell_lt {w : World} {a : Addr} {v : Value} (h : w.cell? a = some v) : a.block < w.heap.size := by
  apply Classical.byContradiction
  intro hn
  have : w.heap[a.block]? = none := by rw [Array.getElem?_eq_none_iff]; omega
  simp [World.cell?, this] at h
theorem SR0 (W : World) : SR C (fun _ => False) W [] [] :=
  ⟨rfl, fun i o b h => by simp at h, fun i j oi oj b h => by simp at h, fun i o b h => by simp at h, fun b h => h.elim, fun g cs h => by cases h⟩
theorem forb0 : forb (fun _ => False) [] [] = fun _ => False := by
  funext b
  apply propext
  constructor
  · rintro (h | ⟨i, o, h, _⟩)
    · exact h
    · simp at h
  · exact fun h => h.elim

section
variable {H : Type} {enc : TypeId × Value → H} {W : World}

theorem vr_limbs {fuel : Nat} {cs : List Value} {x : DataW H × List MemPlace} (h : DataW.trod enc Tryz.prog W 0 (fun _ => true) true fuel 23 cs = some x) :
    ∃ (v : Value) (xs : List Nat), cs = [v] ∧ U32 xs ∧ VR W (fun _ => False) [] [] (sln .u32 xs) v := by
  rcases open_ints Tryz.underlying23 Tryz.underlying54 (by kernel_rfl) h with ⟨rfl, _⟩ | ⟨a, len, cap, zs, rfl, _, hl, hm, hz, _, hcell, hwf⟩
  · refine ⟨_, [], rfl, fun _ h => (by cases h), ?_⟩
    simp only [VR]
    exact ⟨none, 0, rfl, Nat.le_refl _, Nat.zero_le _, fun h => (h rfl).elim⟩
  · simp only [if_true] at hz
    have hb : ∀ n ∈ zs, 0 ≤ n ∧ n < 4294967296 := by
      intro n hn
      have := hwf n hn
      simp [Lit.wf, IntKind.min, IntKind.max, IntKind.signed, IntKind.bits] at this
      omega
    have hu : U32 ((zs.take len).map Int.toNat) := by
      intro y hy
      obtain ⟨n, hn, rfl⟩ := List.mem_map.1 hy
      have := hb n (List.mem_of_mem_take hn)
      show n.toNat < 4294967296
      omega
    have hlen : ((zs.take len).map Int.toNat).length = len := by rw [List.length_map, List.length_take]; omega
    refine ⟨_, (zs.take len).map Int.toNat, rfl, hu, ?_⟩
    have hget : ∀ j : Nat, j < len → nts .u32 ((zs.take len).map Int.toNat) = nts .u32 ((zs.take len).map Int.toNat) → ((nts .u32 ((zs.take len).map Int.toNat))[j]? = some (.int .u32 (zs.getD j 0))) := by
      intro j hj _
      have hjz : j < zs.length := by omega
      have hn := hb (zs[j]'hjz) (List.getElem_mem hjz)
      simp only [nts, List.map_map, List.getElem?_map, List.getElem?_take, if_pos hj, List.getElem?_eq_getElem hjz, Option.map_some, Function.comp, List.getD_eq_getElem?_getD, Option.getD_some]
      congr 2
      omega
    simp only [VR]
    refine ⟨some a, cap, by rw [hlen], by rw [hlen]; exact hl, hm, fun hne => ⟨a, rfl, ?_, id, VRL_mk fun j d hd => ?_⟩⟩
    · have h0 : 0 < zs.length := by
        rcases Nat.eq_zero_or_pos zs.length with h | h
        · have : zs = [] := List.eq_nil_of_length_eq_zero h
          subst this
          simp [nts] at hne
        · exact h
      exact cell_lt (hcell 0 h0)
    · have hj : j < len := by
        have := (List.getElem?_eq_some_iff.1 hd).1
        simp only [nts, List.length_map, List.length_take] at this
        omega
      rw [hget j hj rfl] at hd
      injection hd with hd
      subst hd
      exact ⟨_, by rw [Nat.zero_add]; exact hcell j (by omega), rfl, by simp only [VR]⟩
theorem vr_Int {base : Nat} {v : Value} {d : DataW H} {p : List MemPlace} (hv : Value.okWide Tryz.prog W .any base 25 v) (h : DataW.Trod enc Tryz.prog W 0 (fun _ => true) true 25 v d p) :
    ∃ e : Bool × List Nat, U32 e.2 ∧ VR W (fun _ => False) [] [] (.agg [.bool e.1, sln .u32 e.2]) v := by
  obtain ⟨cs, rfl, hsz⟩ := okWide_struct Tryz.underlying25 hv
  obtain ⟨fuel, hf⟩ := h
  obtain ⟨y0, y1, n, _, hl, h0, h1⟩ := trod_struct2 Tryz.underlying25 hf
  have c25 : Tryz.prog.cellsOf 25 = 2 := by kernel_rfl
  have c4 : Tryz.prog.cellsOf 4 = 1 := by kernel_rfl
  have c23 : Tryz.prog.cellsOf 23 = 1 := by kernel_rfl
  rw [c25] at hsz
  obtain ⟨l⟩ := cs
  match l, hsz with
  | [c0, c1], _ =>
    simp only [Value.cells] at h0 h1
    rw [c4] at h0
    rw [c23] at h1
    obtain ⟨b, e0, _⟩ := DataW.trod_bool Tryz.underlying4 h0
    obtain ⟨v1, xs, e1, hu, hx⟩ := vr_limbs h1
    simp at e0 e1
    subst e0; subst e1
    refine ⟨(b, xs), hu, ?_⟩
    simp only [VR, VRs]
    refine ⟨[.bool b, c1], rfl, .bool b, [c1], rfl, rfl, c1, [], rfl, ?_, rfl⟩
    simpa only [VR] using hx

theorem vr_int {base : Nat} {v : Value} {d : DataW H} {p : List MemPlace} (hv : Value.okWide Tryz.prog W .any base 3 v) (h : DataW.Trod enc Tryz.prog W 0 (fun _ => true) true 3 v d p) :
    ∃ n : Int, -9223372036854775808 ≤ n ∧ n ≤ 9223372036854775807 ∧ VR W (fun _ => False) [] [] (.int .i64 n) v := by
  obtain ⟨n, rfl, _, _, hw⟩ := open_int Tryz.underlying3 hv h
  simp [Lit.wf, IntKind.min, IntKind.max, IntKind.signed, IntKind.bits] at hw
  exact ⟨n, by omega, by omega, by simp only [VR]⟩
theorem trodAll_stays {W' : World} (hb : Below W.heap.size W W') {sp : Nat → Bool} : ∀ {ts : List TypeId} {vs : List Value} {ds : List (DataW H)} {p : List MemPlace}, (∀ t ∈ ts, Tryz.prog.readableRec t = true ∧ t < Tryz.prog.types.size) →
    DataW.TrodAll enc Tryz.prog W 0 (fun _ => true) true ts vs ds p → (∀ x ∈ p, x.block < W.heap.size ∧ sp x.block = true) → DataW.TrodAll enc Tryz.prog W' 0 sp true ts vs ds p
  | [], _, _, _, _, h, _ => by
    obtain ⟨rfl, rfl, rfl⟩ := trodAll_nil h
    simp [DataW.TrodAll]
  | t :: ts, _, _, _, ht, h, hp => by
    obtain ⟨v, vs, d, ds, a, b, rfl, rfl, rfl, h1, h2⟩ := trodAll_cons h
    obtain ⟨r1, r2⟩ := ht t (List.mem_cons_self ..)
    exact ⟨a, b, WideElems.Trod_stays laidOutZ r1 r2 h1 (fun x hx => hb.same (hp x (List.mem_append_left _ hx)).1) (fun x hx => (hp x (List.mem_append_left _ hx)).2),
      trodAll_stays hb (fun t ht' => ht t (List.mem_cons_of_mem _ ht')) h2 (fun x hx => hp x (List.mem_append_right _ hx)), rfl⟩
theorem law_post {fn : Func} {s : ChangeSpec} {W' : World} {args : Array Value} {ds : List (DataW H)} {before : List MemPlace} (hs : s.vars = []) (hW : DataW.Whole enc Tryz.prog fn.params.toList s.vars false W args.toList ds [] before) (hf : s.fn H ds = { results := [.lit (.bool true)], args := ds })
    (hr : fn.resultTypes = #[4]) (hts : ∀ t ∈ fn.params.toList, Tryz.prog.readableRec t = true ∧ t < Tryz.prog.types.size) (hb : Below W.heap.size W W') : s.post enc Tryz.prog fn false true false false W args (.bool true) W' := by
  have hW' := hW
  obtain ⟨p, q, hA, hV, rfl, _, _⟩ := hW
  rw [hs] at hV
  obtain ⟨_, rfl⟩ := trodVars_none hV
  have hlt : ∀ x ∈ p, x.block < W.heap.size := fun x hx => by simpa using hW'.lt x (List.mem_append_left _ hx)
  refine ⟨ds, [], p ++ [], [], p, [], hW', ?_, ?_, ?_, hb.frame _, fun h => by cases h⟩
  · rw [List.append_nil, hf, hr]
    exact trodAll_mk1 (shut_bool Tryz.underlying4 _)
  · rw [List.append_nil, hf]
    exact trodAll_stays hb hts hA fun x hx => ⟨hlt x hx, by simpa using hlt x hx⟩
  · rw [List.append_nil, hf, hs]
    rfl
end

/-- A law's call, out of its contract. -/
theorem law_calls {f : FuncId} {ds : List D} {W : World} {vs : List Value} (hc : PC C f ds (fun o => o = .ret (.bool true))) (hv : VRs W (fun _ => False) [] [] ds vs) : Calls Tryz.prog f vs.toArray W fun e W' => e = .returned (.bool true) ∧ Below W.heap.size W W' := by
  have h := (hc []).2 (fun _ => False) W [] vs (SR0 W) (by rw [forb0]; exact hv)
  refine h.mono ?_
  rintro e W' ⟨o, H', μ', ⟨rfl, rfl⟩, _, ⟨v, he, hv'⟩, hevo⟩
  simp only [VR] at hv'
  subst hv'
  exact ⟨he, hevo.os, hevo.tape, hevo.output, hevo.size, fun k hk => hevo.chg k hk fun ⟨i, o, h, _⟩ => by simp at h⟩
end Go.V

/- The closed facts of a row, one by one: what holds of the program itself, and how they are joined; no condition. -/
set_option maxRecDepth 100000
namespace Go.V
open Go.Proofs

theorem and_t {a b : Bool} (h1 : a = true) (h2 : b = true) : (a && b) = true := by rw [h1, h2]; rfl
theorem joined_of {P : Program} {f : FuncId} {fn : Func} {s : ChangeSpec} {c : OpenClaim}
    (k1 : (c.wf (OpenSpec.ofChange s)) = true)
    (k2 : (laidOutB P) = true)
    (k3 : (mapsRowed P) = true)
    (k4 : (fn.params.all (P.readableRec ·)) = true)
    (k5 : (namedTie P c.named s.vars) = true)
    (k6 : (c.stops == []) = true)
    (k7 : (P.stops == []) = true)
    (k8 : (c.knobs == []) = true)
    (k9 : (P.stopKnobs == []) = true)
    (k10 : (c.inPlace == P.inPlace f) = true)
    (k11 : (c.unfollowed == P.unfollowed f) = true)
    (k12 : (c.recurses == P.recurses f) = true)
    (k13 : (c.named == P.varsNamed f) = true)
    (k14 : ((c.maps == (fn.params.toList ++ s.plain.varTypes P).any (P.mapsRec ·))) = true)
    (k15 : ((c.ifaces == (fn.params.toList ++ s.plain.varTypes P).any (P.ifacesRec ·))) = true)
    (k16 : (c.mapsOut == P.mapsAmong fn.resultTypes.toList) = true)
    (k17 : ((c.loops == (fn.params.toList ++ s.plain.varTypes P).any (P.loopsFrom ·))) = true)
    (k18 : ((c.wideKeys == (fn.params.toList ++ s.plain.varTypes P ++ fn.resultTypes.toList).any (P.wideKeysFrom ·))) = true)
    (k19 : (s.vars.all (P.varReadable ·)) = true)
    (k20 : (fn.resultTypes.all (fun t => P.readableRec t && decide (t < P.types.size))) = true)
    (k21 : ((c.ifacesOut == fn.resultTypes.toList.any (P.ifacesRec ·))) = true)
    (k22 : ((c.loopsOut == fn.resultTypes.toList.any (P.loopsFrom ·))) = true)
    (k23 : (c.plainKeys == P.plainKeys) = true)
    (k24 : (c.shortTexts.isNone) = true)
    (k25 : (P.stopsHeard) = true)
    (k26 : (P.mayEnter) = true)
    (k27 : (c.lifted == P.liftsFinal) = true)
    (k28 : (P.make == some c.make) = true)
    (k29 : ((c.kinds == (if c.domain.isEmpty then [] else fn.params.toList.map fun t => match P.underlying t with | some (.int k) => some k | _ => none))) = true)
    (k30 : (c.pinned == c.pinnedBy) = true)
    (k31 : ((c.veiled == (fn.params.toList ++ s.plain.varTypes P ++ fn.resultTypes.toList).any (P.veiledRec ·))) = true)
    (k32 : (c.veiledFits P fn.params.toList (fn.params.toList ++ s.plain.varTypes P ++ fn.resultTypes.toList)) = true)
    : joinedFacts P f fn s c = true := by
  unfold joinedFacts
  exact and_t (and_t (and_t (and_t (and_t (and_t (and_t (and_t (and_t (and_t (and_t (and_t (and_t (and_t (and_t (and_t (and_t (and_t (and_t (and_t (and_t (and_t (and_t (and_t (and_t (and_t (and_t (and_t (and_t (and_t (and_t k1 k2) k3) k4) k5) k6) k7) k8) k9) k10) k11) k12) k13) k14) k15) k16) k17) k18) k19) k20) k21) k22) k23) k24) k25) k26) k27) k28) k29) k30) k31) k32
theorem z_maps : mapsRowed Tryz.prog = true := by kernel_rfl
theorem z_plainKeys : (Go.Proofs.YtjohcjagbodicaaGreatDoor.Rows.wholeSumsRow.plainKeys == Tryz.prog.plainKeys) = true := by kernel_rfl
theorem z_stopsHeard : Tryz.prog.stopsHeard = true := by kernel_rfl
theorem z_lifts : (Go.Proofs.YtjohcjagbodicaaGreatDoor.Rows.wholeSumsRow.lifted == Tryz.prog.liftsFinal) = true := by kernel_rfl
theorem z_make : (Tryz.prog.make == some Go.Proofs.YtjohcjagbodicaaGreatDoor.Rows.wholeSumsRow.make) = true := by kernel_rfl
theorem z_main : YtjohcjagbodicaaGreatDoor.Tryz.pinned.checked.prog.mainIs = some (true, "5b8a1e8da34a88fc5bd34c331ad38cb7b46866bf85af6ffc6bc920dabf7d6da1".toList) := by kernel_rfl
theorem z_looks : true = Tryz.prog.looks [] := by kernel_rfl
theorem z_enter : Tryz.prog.mayEnter = true := by kernel_rfl
end Go.V
