/- A part of the proof: abstract values, rules for the steps of the program's form, and contracts of its functions, each proved; no condition. -/
import Derived.Test.YtjohcjagbodicabGreatDoorA06
import Derived.Recover
set_option linter.unusedVariables false
set_option linter.unusedSimpArgs false
/- SLICES THAT ARE NEVER WRITTEN, from their birth on. -/
namespace Go.V
open Go.RowKit
section
variable {C : Ctx} {env : List D} {H : Heap} {dst : Option Tmp} {ty : TypeId} {pos : String} {aft : Array Edge} {gd : Option (Nat × Bool)} {x y z : Operand} {d : D}
variable {T e : TypeId} {desc descE : TypeDesc} {size bytes sizeE bytesE : Nat} {zero zeroE : Value} {tee : TE}
theorem SR.allocK {C : Ctx} {L0 : Nat → Prop} {w : World} {μ : List Nat} {H : Heap} (hs : SR C L0 w μ H) (ob : Obj) : SR C L0 (w.alloc ob) μ H ∧ Evo w (w.alloc ob) μ μ H H := by
  have he : Evo w (w.alloc ob) μ μ H H := ⟨rfl, rfl, rfl, by simp, fun b hb _ => Below.heap_alloc w _ b hb, fun _ _ h => h, fun _ _ h => h, fun i x hx => ⟨x, hx, fun o' e => ⟨o', e, rfl, rfl, rfl, fun b cur _ hw => ⟨cur, by rw [Below.heap_alloc w _ b (Array.getElem?_eq_some_iff.1 hw).1]; exact hw, rfl⟩⟩⟩⟩
  refine ⟨hs.next he hs.len (fun i o b h1 h2 => ?_) hs.inj hs.own, he⟩
  exact (hs.obj i o b h1 h2).same (Below.heap_alloc w _ b (hs.block_lt h1 h2))
theorem OpQ.newF {o : Oper} {dv : D} (h : ∀ (L0 : Nat → Prop) (w : World) (μ : List Nat) (a : Act), SR C L0 w μ H → (∀ x d, evO C env x = some d → VR w (forb L0 μ H) μ H d (a.eval x)) →
      ∃ (v : Value) (cur : Array Value), (execOp a.eval o).run C.P w = .ok (.value v) (w.alloc (.cells cur e)) ∧ (Evo w (w.alloc (.cells cur e)) μ μ H H → VR (w.alloc (.cells cur e)) (forb L0 μ H) μ H dv v)) : OpQ C o env H dv := by
  refine ⟨fun L0 w μ a hs hv => ?_⟩
  obtain ⟨v, cur, h1, h4⟩ := h L0 w μ a hs (fun x d hx => evO_ok hs hv hx)
  unfold Oper.wp
  rw [h1]
  obtain ⟨s1, s2⟩ := hs.allocK (.cells cur e)
  exact ⟨v, dv, H, μ, ⟨rfl, rfl⟩, rfl, s1, h4 s2, s2⟩
theorem ZiU {n : Nat} {zs cs : List D} {dz : D} {parts : List (Nat × Operand)} {ps : List (Nat × D)} (ht : UN C T (.slice e)) (te : TIC C e descE sizeE bytesE zeroE) (hz : constD zeroE = some dz) (hzs : cellsD dz = some zs) (hzk : zs.all (okCell H) = true) (hzl : zs.length = sizeE)
    (hps : (parts.mapM fun p => (evO C env p.2).map fun d => (p.1, d)) = some ps) (hk : okParts H ps = true) (hf : fillD (fun i => some (i * sizeE, sizeE)) (List.flatten (List.replicate n zs)) ps = some cs) (hck : cs.all (okCell H) = true) (hcl : cs.length = n * sizeE) (hn : n * sizeE ≤ 16777216) (h0 : 0 < sizeE) (hpu : D.pure.pures cs = true) :
    OpQ C ⟨dst, .buildSlice T n parts.toArray, ty, pos, aft, gd⟩ env H (.sl n cs) :=
  OpQ.newF (e := e) fun L0 w μ a hs he => by
    obtain ⟨e1, e2⟩ := evParts hps
    obtain ⟨z1, _⟩ := cellsD_ok (w := w) (L := forb L0 μ H) (μ := μ) (H := H) hzs hzk (constD_ok hz)
    have zl := VRs_length z1
    rw [Array.length_toList] at zl
    obtain ⟨i, i1, i2, i3, i4⟩ := te.infos
    have hbase : VRs w (forb L0 μ H) μ H (List.flatten (List.replicate n zs)) ((Array.range (n * sizeE)).map (fun j => zeroE.cells[j % zeroE.cells.size]!)).toList := by
      refine VRs_mk (by simp [hzl]) fun j d v h1 h2 => ?_
      have hj : j < n * zs.length := by rw [← flatten_len]; exact (List.getElem?_eq_some_iff.1 h1).1
      rw [flatten_get (by omega) n j hj] at h1
      obtain ⟨u, k1, k2⟩ := VRs_get z1 h1
      have h2' : zeroE.cells[j % zeroE.cells.size]! = v := by
        simp only [Array.toList_map, Array.toList_range, List.getElem?_map] at h2
        rw [List.getElem?_range (by rw [← hzl]; exact hj)] at h2
        simpa using h2
      have k1' : zeroE.cells[j % zs.length]? = some u := by simpa using k1
      rw [zl] at h2'
      rw [getElem!_def, k1'] at h2'
      simp only at h2'
      subst h2'
      exact k2
    obtain ⟨cells, r1, r2⟩ := fill_ok (w := w) (L := forb L0 μ H) (μ := μ) (H := H) (place := fun i => some (i * sizeE, sizeE)) (ps := ps) (vs := parts.map fun p => (p.1, a.eval p.2)) (cells := (Array.range (n * sizeE)).map (fun j => zeroE.cells[j % zeroE.cells.size]!)) (by simp [e1, Function.comp_def]) (fun j i d i' v h1 h2 => by
      obtain ⟨x, k1, k2⟩ := e2 j i d h1
      simp only [List.getElem?_map, k1, Option.map_some, Option.some.injEq, Prod.mk.injEq] at h2
      obtain ⟨rfl, rfl⟩ := h2
      exact ⟨he _ _ k2, fun ds hd => okParts_at hk h1 ds hd⟩) hbase hf
    have rl := VRs_length r2
    rw [Array.length_toList] at rl
    refine ⟨.slice (some ⟨w.heap.size, 0, none⟩) n n, cells, ?_, fun hl => ?_⟩
    · have hm : (parts.toArray.map fun p => (p.1, a.eval p.2)) = (parts.map fun p => (p.1, a.eval p.2)).toArray := by simp
      have n1 : ¬ (n * sizeE > 2 ^ 24) := by omega
      simp only [execOp, hm, Instr.buildSlice, Sem.run_bind, run_underlying ht, Result.andThen_ok, te.run_size, n1, if_false, Sem.run_pure]
      by_cases hn0 : n * sizeE = 0
      · simp only [hn0, if_true, Sem.run_pure, Result.andThen_ok]
        rw [hn0] at r1
        have r1' : Instr.fill (fun i => some (i * sizeE, sizeE)) ((Array.range 0).map (fun j => (#[] : Array Value)[j % (#[] : Array Value).size]!)) (parts.map fun p => (p.1, a.eval p.2)) = some cells := by
          rw [← r1, emp_range, emp_range]
        simp only [r1', newRow, Sem.run_bind, run_newObj_alloc, Result.andThen_ok, Sem.run_pure]
      simp only [hn0, if_false, Sem.run_bind, te.run_zero, Result.andThen_ok, Sem.run_pure]
      simp only [r1, newRow, Sem.run_bind, run_newObj_alloc, Result.andThen_ok, Sem.run_pure]
    simp only [VR]
    have hnm : n ≤ 16777216 := Nat.le_trans (Nat.le_mul_of_pos_right n h0) hn
    refine ⟨some ⟨w.heap.size, 0, none⟩, n, rfl, Nat.le_refl _, by unfold maxLen; omega, fun _ => ⟨⟨w.heap.size, 0, none⟩, rfl, by simp, fun hfb => Nat.lt_irrefl _ (hs.forb_lt hfb), VRL_mk fun j d hd => ?_⟩⟩
    obtain ⟨v, k1, k2⟩ := VRs_get r2 hd
    have hpd : d.pure = true := by
      have key : ∀ (l : List D) (j : Nat), D.pure.pures l = true → l[j]? = some d → d.pure = true := by
        intro l
        induction l with
        | nil => intro j _ h; simp at h
        | cons c l ih =>
          intro j h hj
          simp only [D.pure.pures, Bool.and_eq_true] at h
          cases j with
          | zero => simp at hj; subst hj; exact h.1
          | succ j => simp only [List.getElem?_cons_succ] at hj; exact ih j h.2 hj
      exact key cs j hpu hd
    refine ⟨v, ?_, okCell_one (List.all_eq_true.1 hck _ (List.mem_of_getElem? hd)) k2, VR.step (hl.step L0).pure (VR.drop hpd k2)⟩
    rw [Nat.zero_add, add_lit, cell_row (heap_alloc_new w _)]
    simpa using k1
theorem Zan {n S b : Nat} {zv : Value} {zs cs : List D} {dz : D} {parts : List (Nat × Operand)} {ps : List (Nat × D)} (ht : C.ty T = some ⟨.slice e, S, b, zv⟩) (hee : C.ty e = some tee) (hz : constD tee.zero = some dz) (hzs : cellsD dz = some zs) (hzk : zs.all (okCell H) = true) (hzl : zs.length = tee.size)
    (hps : (parts.mapM fun p => (evO C env p.2).map fun d => (p.1, d)) = some ps) (hok : okParts H ps = true) (hf : fillD (fun i => some (i * tee.size, tee.size)) (List.flatten (List.replicate n zs)) ps = some cs) (hck : cs.all (okCell H) = true) (hcl : cs.length = n * tee.size) (hn : n * tee.size ≤ 16777216) (h0 : 0 < tee.size) (hpu : D.pure.pures cs = true) : OpQ C ⟨dst, .buildSlice T n parts.toArray, ty, pos, aft, gd⟩ env H (.sl n cs) :=
  ZiU (ty_slice ht) (ty_tic hee).1 hz hzs hzk hzl hps hok hf hck hcl hn h0 hpu
end
end Go.V
set_option synthInstance.maxSize 100000
set_option synthInstance.maxHeartbeats 2000000
set_option maxHeartbeats 2000000
namespace Go.V
open Go.RowKit Go.Proofs
def CmpOK : Prop := ∀ a b : Nat, (lim a).length ≤ 1099511627776 → (lim b).length ≤ 1099511627776 → PC C Zdf [numD a, numD b] (fun o => o = .ret (.int .i64 (cmpI a b)))
theorem Zd4 (a h : Nat) (ha : (lim a).length ≤ 1099511627776) (hh : h ≤ 34359738368) : PC C ZbR [numD a, .int .i64 ((32 * h : Nat) : Int)] (fun o => o = .ret (numD (a * B ^ h))) := by
  have := Za8 a (32 * h) ha (by omega)
  rwa [← B_pow] at this
theorem ZmJ (h : Nat) (hh : h ≤ 34359738368) : PC C ZbR [.sl 1 [.int .u32 1], .int .i64 ((32 * h : Nat) : Int)] (fun o => o = .ret (numD (B ^ h))) := by
  have := Zd4 1 h (by rw [lim_one]; decide) hh
  rw [Nat.one_mul] at this
  have e : numD 1 = .sl 1 [.int .u32 1] := by rw [numD, lim_one]; rfl
  rwa [e] at this
theorem ZlP (a : Nat) (ha : (lim a).length ≤ 1099511627776) (h : 1 ≤ a) : PC C Zdg [numD a, .sl 1 [.int .u32 1]] (fun o => o = .ret (numD (a - 1))) := by
  have := ZbK a 1 ha h
  have e : numD 1 = .sl 1 [.int .u32 1] := by rw [numD, lim_one]; rfl
  rwa [e] at this
theorem cmpI_lt {a b : Nat} : cmpI a b < 0 ↔ a < b := by
  unfold cmpI
  split
  · simp [*]
  split <;> simp [*]
theorem ZlQ (hcmp : CmpOK) (cut h : Nat) (hh : 1 ≤ h) (hN : h ≤ 1073741824) (htw : ∀ a d : Nat, (lim d).length = h → a < B ^ h * d → PC C ZgX [numD a, numD d, .int .i64 (h : Int), .int .i64 (cut : Int)] (fun o => o = .ret (.tup [numD (a / d), numD (a % d)]))) (a d : Nat) (hd : (lim d).length = 2 * h) (ha : a < B ^ h * d) :
    PC C ZjK [numD a, numD d, .int .i64 (h : Int), .int .i64 (cut : Int)] (fun o => o = .ret (.tup [numD (a / d), numD (a % d)])) := by
  refine PC.rn Zet ZiM ZiN (rs := [.tmp 8, .tmp 9]) (by rw [ZiO]) ?_
  have hX : 0 < B ^ h := Nat.pow_pos B_pos
  have hd0 : 0 < d := Nat.pos_of_ne_zero (ln_pos.1 (by omega))
  have hal : (lim a).length ≤ 3 * h := by
    rw [ln_le_iff]
    refine Nat.lt_of_lt_of_le ha ?_
    rw [show 3 * h = h + 2 * h by omega, Nat.pow_add]
    exact Nat.mul_le_mul_left _ (Nat.le_of_lt (ln_le_iff.1 (Nat.le_of_eq hd)))
  have hfl := ln_div d h
  have hf0 : 0 < d / B ^ h := Nat.pos_of_ne_zero (ln_pos.1 (by omega))
  have hsl := ln_mod d h
  have htl := ln_div a h
  have hul := ln_div a (2 * h)
  refine ARun.seq (ARun.region ?_); refine zza ?_; refine zza ?_; refine AOps.nil (ARun.seq (ARun.region ?_)); refine zzm ?_; refine zzm ?_
  refine zzc rfl rfl (ZaC a h (by omega)) ?_
  refine zzm ?_; refine zzm ?_
  refine zzc rfl rfl (ZaC d h (by omega)) ?_
  refine zzm ?_; refine zzm ?_
  refine zzc rfl rfl (Za7 d h (by omega)) ?_
  refine zza ?_; refine zza ?_; refine zza ?_; refine AOps.nil (ARun.seq (ARun.region ?_)); refine zza ?_; refine zza ?_; refine AOps.nil (ARun.seq (ARun.seq (ARun.region ?_))); refine zzm ?_; refine zzm ?_
  refine y_op rfl (q_mul rfl rfl (nmul_i64 (m := 2) (by omega))) ?_
  refine zzc rfl rfl (ZaC a (2 * h) (by omega)) ?_
  refine zzm ?_
  refine zzc rfl rfl (hcmp _ _ (by omega) (by omega)) ?_
  refine zzi ?_; refine AOps.nil ?_
  refine ARun.join (S := Nat × Nat) (fun σ : Nat × Nat => [(32, .any), (33, .any), (34, .any), (35, .any), (36, .any), (37, .any), (38, .any), (39, .any), (40, .any), (41, .any), (42, .any), (43, .any), (44, .any), (45, .any), (46, .any), (47, .any), (48, .any), (49, .any), (50, .any), (51, .any), (52, .any), (53, .any), (13, numD σ.1), (14, numD σ.2)]) (fun σ : Nat × Nat => σ.1 * (d / B ^ h) + σ.2 = a / B ^ h ∧ a / d ≤ σ.1 ∧ σ.1 < B ^ h) (fun run => ?_) ?_
  · skip
    refine ARun.ite rfl (fun hc => ?_) (fun hc => ?_)
    · skip
      have hlt := cmpI_lt.1 hc
      have htop : a / B ^ h < B ^ h * (d / B ^ h) := by
        rw [Nat.mul_comm, ← Nat.div_lt_iff_lt_mul hX, Nat.div_div_eq_div_mul, ← Nat.pow_add, show h + h = 2 * h by omega]
        exact hlt
      refine ARun.region ?_; refine zzm ?_; refine zzm ?_; refine zzm ?_; refine zzm ?_
      refine zzc rfl rfl (htw (a / B ^ h) (d / B ^ h) (by omega) htop) ?_
      refine zzm ?_; refine zze ?_; refine zze ?_; refine zza ?_; refine zza ?_; refine AOps.nil ?_
      exact ARun.ag (run ((a / B ^ h / (d / B ^ h), a / B ^ h % (d / B ^ h))) (⟨by dsimp only; rw [Nat.mul_comm]; exact Nat.div_add_mod _ _, th_le1 hX hf0, (Nat.div_lt_iff_lt_mul hf0).2 htop⟩))
    have hge : d / B ^ h * B ^ h ≤ a / B ^ h := by
      have : ¬ a / B ^ (2 * h) < d / B ^ h := fun x => hc (cmpI_lt.2 x)
      rw [← Nat.le_div_iff_mul_le hX, Nat.div_div_eq_div_mul, ← Nat.pow_add, show h + h = 2 * h by omega]
      omega
    have hB1 := ln_B h
    have hsb := ln_mono (Nat.sub_le (a / B ^ h) (d / B ^ h * B ^ h))
    refine ARun.seq (ARun.region ?_)
    refine y_op rfl (Zan rfl rfl rfl rfl rfl rfl rfl rfl rfl rfl rfl (by decide) (by decide) rfl) ?_
    refine zzm ?_
    refine y_op rfl (q_mul rfl rfl (nmul_i64 (m := 32) (by omega))) ?_
    refine zzc rfl rfl (ZmJ h (by omega)) ?_
    refine y_op rfl (Zan rfl rfl rfl rfl rfl rfl rfl rfl rfl rfl rfl (by decide) (by decide) rfl) ?_
    refine zzc rfl rfl (ZlP _ (by omega) hX) ?_
    refine zza ?_; refine AOps.nil (ARun.region ?_); refine zzm ?_; refine zzm ?_; refine zzm ?_
    refine y_op rfl (q_mul rfl rfl (nmul_i64 (m := 32) (by omega))) ?_
    refine zzc rfl rfl (Zd4 _ h (by omega) (by omega)) ?_
    refine zzc rfl rfl (ZbK _ _ (by omega) hge) ?_
    refine zzm ?_
    refine zzc rfl rfl (Zaw _ _ (by omega) (by omega)) ?_
    refine zza ?_; refine AOps.nil ?_
    exact ARun.ag (run ((B ^ h - 1, a / B ^ h - d / B ^ h * B ^ h + d / B ^ h)) (⟨th_eq2 hX hge, th_le2 hd0 ha, Nat.sub_lt hX (by decide)⟩))
  rintro ⟨q, r⟩ hj
  try dsimp only at hj ⊢
  obtain ⟨j1, j2, j3⟩ := hj
  have hT := Th.init hd0 j1 hX j2
  have hql : (lim q).length ≤ h := ln_le j3
  have hrl : (lim r).length ≤ 2 * h := Nat.le_trans (ln_mono (show r ≤ a / B ^ h by omega)) (by omega)
  have hpl := ln_mul q (d % B ^ h)
  have hrb := ln_mul r (B ^ h)
  have hB1 := ln_B h
  have hml := ln_mod a h
  have hadd := ln_add (r * B ^ h) (a % B ^ h)
  refine ARun.seq (ARun.region ?_); refine zzm ?_; refine zzm ?_
  refine zzc rfl rfl (Zh1 _ _ (by omega) (by omega)) ?_
  refine zza ?_; refine AOps.nil (ARun.seq (ARun.region ?_)); refine zzm ?_; refine zzm ?_
  refine y_op rfl (q_mul rfl rfl (nmul_i64 (m := 32) (by omega))) ?_
  refine zzc rfl rfl (Zd4 _ h (by omega) (by omega)) ?_
  refine zzm ?_; refine zzm ?_
  refine zzc rfl rfl (Za7 a h (by omega)) ?_
  refine zzc rfl rfl (Zaw _ _ (by omega) (by omega)) ?_
  refine zza ?_; refine AOps.nil (ARun.seq (ARun.block ?_))
  refine ARun.loopI (S := Nat × Nat) (fun σ : Nat × Nat => [(65, .any), (66, .any), (67, .any), (68, .any), (69, .any), (70, .any), (71, .any), (72, .any), (73, .any), (74, .any), (13, numD σ.1), (14, numD σ.2)]) (fun σ : Nat × Nat => []) (fun σ : Nat × Nat => Th a d σ.1 σ.2 (q * (d % B ^ h)) ∧ (lim σ.1).length ≤ h ∧ (lim σ.2).length ≤ 4 * h + 2) (fun σ : Nat × Nat => σ.1) ((q, r * B ^ h + a % B ^ h)) ?_ ?_ ?_ ?_
  · exact ⟨hT, hql, by dsimp only; omega⟩
  · (repeat' first | exact envLe_nil | apply envLe_any | apply envLe_same)
  · rfl
  rintro ⟨u, v⟩ hinv ih
  dsimp only at hinv ih ⊢
  obtain ⟨hI, hul2, hvl⟩ := hinv
  refine ARun.seq (ARun.seq (ARun.region ?_)); refine zzm ?_; refine zzm ?_
  refine zzc rfl rfl (hcmp _ _ (by omega) (by omega)) ?_
  refine zzi ?_; refine AOps.nil ?_
  refine ARun.ite rfl (fun h2 => ?_) (fun h2 => ?_)
  · skip
    obtain ⟨k1, k2⟩ := hI.step hd0 (cmpI_lt.1 h2)
    have hvl2 := ln_mono (Nat.le_of_lt (cmpI_lt.1 h2))
    have hvd := ln_add v d
    have hu1 := ln_mono (Nat.sub_le u 1)
    refine ARun.skip (ARun.block (ARun.seq (ARun.region ?_))); refine zzm ?_; refine zzm ?_
    refine zzc rfl rfl (Zaw _ _ (by omega) (by omega)) ?_
    refine zza ?_; refine AOps.nil (ARun.region ?_); refine zzm ?_
    refine y_op rfl (Zan rfl rfl rfl rfl rfl rfl rfl rfl rfl rfl rfl (by decide) (by decide) rfl) ?_
    refine zzc rfl rfl (ZlP _ (by omega) k1) ?_
    refine zza ?_; refine AOps.nil (ARun.inBlock ?_)
    refine ARun.again (ih ((u - 1, v + d)) ?_ ?_) ?_ ?_
    · exact ⟨k2, by dsimp only; omega, by dsimp only; omega⟩
    · (dsimp only; omega)
    · (repeat' first | exact envLe_nil | apply envLe_any | apply envLe_same)
    rfl
  have hge : q * (d % B ^ h) ≤ v := by
    have : ¬ v < q * (d % B ^ h) := fun x => h2 (cmpI_lt.2 x)
    omega
  obtain ⟨f1, f2⟩ := hI.fin hd0 hge
  refine ARun.exit rfl ?_
  refine ARun.seq (ARun.region ?_); refine zzm ?_; refine zzm ?_; refine zzm ?_
  refine zzc rfl rfl (ZbK _ _ (by omega) hge) ?_
  refine zza ?_; refine zza ?_; refine AOps.nil ?_
  refine ARun.ret ?_
  refine ⟨_, _, _, .tmp rfl (.tmp rfl .nil), .cons (.same _) (.cons (.same _) .nil), rfl, ?_⟩
  rw [f1, f2]
  rfl
end Go.V
set_option synthInstance.maxSize 100000
set_option synthInstance.maxHeartbeats 2000000
set_option maxHeartbeats 2000000
namespace Go.V
open Go.RowKit Go.Proofs
theorem Zd5 (hcmp : CmpOK) (a b : Nat) (ha : (lim a).length ≤ 274877906944) (hb : (lim b).length ≤ 274877906944) (hb0 : 0 < b) : PC C ZcG [numD a, numD b] (fun o => o = .ret (.tup [numD (a / b), numD (a % b)])) := ZjQ hcmp a b ha hb hb0
theorem Zmp (hcmp : CmpOK) (cut : Nat) (n : Nat) : 1 ≤ n → n ≤ 1073741824 → ∀ a d : Nat, (lim d).length = n → a < B ^ n * d → PC C ZgX [numD a, numD d, .int .i64 (n : Int), .int .i64 (cut : Int)] (fun o => o = .ret (.tup [numD (a / d), numD (a % d)])) := by
  induction n using Nat.strongRecOn with
  | _ n rec =>
  intro hn hN a d hd ha
  refine PC.rn Zff ZjH ZjI (rs := [.tmp 8, .tmp 9]) (by rw [ZjJ]) ?_
  have hd0 : 0 < d := Nat.pos_of_ne_zero (ln_pos.1 (by omega))
  have hal : (lim a).length ≤ 2 * n := by
    rw [ln_le_iff]
    refine Nat.lt_of_lt_of_le ha ?_
    rw [show 2 * n = n + n by omega, Nat.pow_add]
    exact Nat.mul_le_mul_left _ (Nat.le_of_lt (ln_le_iff.1 (Nat.le_of_eq hd)))
  refine ARun.seq (ARun.region ?_); refine zza ?_; refine zza ?_; refine AOps.nil (ARun.seq (ARun.seq (ARun.region ?_))); refine zzm ?_
  refine y_op rfl (q_rem rfl rfl (by omega) (nrem (n := 2) rfl)) ?_
  refine zzi ?_; refine zzm ?_
  refine AOps.bool 17 rfl (fun hb => ?_) (fun hb => ?_)
  · skip
    refine zzk ?_; refine zzk ?_; refine zzk ?_; refine zzp ?_; refine AOps.nil ?_
    refine ARun.condT rfl ?_
    refine ARun.seq (ARun.region ?_); refine zzm ?_; refine zzm ?_
    refine zzc rfl rfl (Zd5 hcmp a d (by omega) (by omega) hd0) ?_
    refine zze ?_; refine zze ?_; refine zza ?_; refine zza ?_; refine AOps.nil ?_
    refine ARun.ret ?_
    refine ⟨_, _, _, .tmp rfl (.tmp rfl .nil), .cons (.same _) (.cons (.same _) .nil), rfl, ?_⟩
    rfl
  refine zzm ?_; refine zzm ?_; refine zzi ?_; refine zzp ?_; refine AOps.nil ?_
  refine ARun.ite rfl (fun hc => ?_) (fun hc => ?_)
  · skip
    refine ARun.seq (ARun.region ?_); refine zzm ?_; refine zzm ?_
    refine zzc rfl rfl (Zd5 hcmp a d (by omega) (by omega) hd0) ?_
    refine zze ?_; refine zze ?_; refine zza ?_; refine zza ?_; refine AOps.nil ?_
    refine ARun.ret ?_
    refine ⟨_, _, _, .tmp rfl (.tmp rfl .nil), .cons (.same _) (.cons (.same _) .nil), rfl, ?_⟩
    rfl
  have hev : ¬ ((n % 2 : Nat) : Int) = 1 := fun e => by rw [e] at hb; cases hb
  obtain ⟨h, rfl⟩ : ∃ h, n = 2 * h := ⟨n / 2, by omega⟩
  have hX : 0 < B ^ h := Nat.pow_pos B_pos
  have htl := ln_div a h
  have hml := ln_mod a h
  have ha1 : a / B ^ h < B ^ h * d := by
    rw [Nat.div_lt_iff_lt_mul hX, Nat.mul_right_comm, ← Nat.pow_add, show h + h = 2 * h by omega]
    exact ha
  have hr1 := Nat.mod_lt (a / B ^ h) hd0
  have ha2 : a / B ^ h % d * B ^ h + a % B ^ h < B ^ h * d := by
    have h1 : (a / B ^ h % d + 1) * B ^ h ≤ d * B ^ h := Nat.mul_le_mul_right _ hr1
    have h2 := Nat.mod_lt a hX
    have h3 := Nat.mul_comm d (B ^ h)
    rw [Nat.add_mul, Nat.one_mul] at h1
    omega
  have hrl : (lim (a / B ^ h % d)).length ≤ 2 * h := Nat.le_trans (ln_mono (Nat.le_of_lt hr1)) (Nat.le_of_eq hd)
  have hrb := ln_mul (a / B ^ h % d) (B ^ h)
  have hBl := ln_B h
  have hul := ln_mono (Nat.div_le_self (a / B ^ h) d)
  have hub := ln_mul (a / B ^ h / d) (B ^ h)
  have hll := Nat.le_trans (ln_mono (Nat.div_le_self (a / B ^ h % d * B ^ h + a % B ^ h) d)) (ln_add _ _)
  have th := ZlQ hcmp cut h (by omega) (by omega) (fun a d h1 h2 => rec h (by omega) (by omega) (by omega) a d h1 h2)
  obtain ⟨e1, e2⟩ := two_steps (a := a) (d := d) (X := B ^ h) hd0
  refine ARun.skip (ARun.seq (ARun.region ?_)); refine zzm ?_
  refine y_op rfl (q_quo rfl rfl (by omega) (r := (h : Nat)) ((nquo_i64 (n := 2) rfl (by omega)).trans (by rw [Nat.mul_div_cancel_left _ (by decide)]))) ?_
  refine zza ?_; refine AOps.nil (ARun.seq (ARun.region ?_)); refine zzm ?_; refine zzm ?_
  refine zzc rfl rfl (ZaC a h (by omega)) ?_
  refine zzm ?_; refine zzm ?_; refine zzm ?_
  refine zzc rfl rfl (th (a / B ^ h) d hd ha1) ?_
  refine zzm ?_; refine zze ?_; refine zze ?_; refine zza ?_; refine zza ?_; refine AOps.nil (ARun.seq (ARun.region ?_)); refine zzm ?_; refine zzm ?_
  refine y_op rfl (q_mul rfl rfl (nmul_i64 (m := 32) (by omega))) ?_
  refine zzc rfl rfl (Zd4 _ h (by omega) (by omega)) ?_
  refine zzm ?_; refine zzm ?_
  refine zzc rfl rfl (Za7 a h (by omega)) ?_
  refine zzc rfl rfl (Zaw _ _ (by omega) (by omega)) ?_
  refine zzm ?_; refine zzm ?_; refine zzm ?_
  refine zzc rfl rfl (th _ d hd ha2) ?_
  refine zzm ?_; refine zze ?_; refine zze ?_; refine zza ?_; refine zza ?_; refine AOps.nil (ARun.seq (ARun.region ?_)); refine zzm ?_; refine zzm ?_
  refine y_op rfl (q_mul rfl rfl (nmul_i64 (m := 32) (by omega))) ?_
  refine zzc rfl rfl (Zd4 _ h (by omega) (by omega)) ?_
  refine zzm ?_
  refine zzc rfl rfl (Zaw _ _ (by omega) (by omega)) ?_
  refine zzm ?_; refine zza ?_; refine zza ?_; refine AOps.nil ?_
  refine ARun.ret ?_
  refine ⟨_, _, _, .tmp rfl (.tmp rfl .nil), .cons (.same _) (.cons (.same _) .nil), rfl, ?_⟩
  rw [e1, e2]
  rfl
end Go.V
/- DIVISION by blocks: how the block's length is found. -/
namespace Go.V
structure Hv (L n k : Nat) : Prop where
  lo : L ≤ n * 2 ^ k
  hi : n * 2 ^ k < L + 2 ^ k
  pw : 2 ^ k ≤ L
theorem Hv.init {L : Nat} (h : 1 ≤ L) : Hv L L 0 := ⟨by simp, by simp, by simpa using h⟩
theorem Hv.step {L n k : Nat} (h : Hv L n k) (hn : 4 ≤ n) : Hv L ((n + 1) / 2) (k + 1) := by
  obtain ⟨h1, h2, h3⟩ := h
  have hp : 2 ^ (k + 1) = 2 ^ k * 2 := Nat.pow_succ ..
  have h4 : n * 2 ^ k ≤ (n + 1) / 2 * 2 * 2 ^ k := Nat.mul_le_mul_right _ (by omega)
  have h5 : (n + 1) / 2 * 2 * 2 ^ k ≤ (n + 1) * 2 ^ k := Nat.mul_le_mul_right _ (by omega)
  have h6 : 4 * 2 ^ k ≤ n * 2 ^ k := Nat.mul_le_mul_right _ hn
  have e : (n + 1) / 2 * 2 ^ (k + 1) = (n + 1) / 2 * 2 * 2 ^ k := by rw [hp, Nat.mul_comm (2 ^ k), ← Nat.mul_assoc]
  rw [Nat.add_mul, Nat.one_mul] at h5
  refine ⟨?_, ?_, ?_⟩ <;> omega
theorem nshl_i64 {y : Int} {m s : Nat} (hy : y = (s : Int)) (hs : s ≤ 64) (h : m * 2 ^ s ≤ 9223372036854775807) : IntKind.i64.wrap ((m : Int) * 2 ^ min y.toNat IntKind.i64.bits) = ((m * 2 ^ s : Nat) : Int) := by
  subst hy
  rw [Int.toNat_natCast, show IntKind.i64.bits = 64 from rfl, Nat.min_eq_left hs]
  have : (m : Int) * 2 ^ s = ((m * 2 ^ s : Nat) : Int) := by simp
  rw [this]
  exact IntWalk.i64_in _ (by omega)
theorem pow_lt_of_le {k L : Nat} (h : 2 ^ k ≤ L) (hL : L ≤ 536870912) : k ≤ 64 := by
  rcases Nat.lt_or_ge 64 k with h1 | h1
  · have := Nat.pow_le_pow_right (show 0 < 2 by decide) (Nat.le_of_lt h1)
    omega
  exact h1
theorem blk_norm {b n s : Nat} (hb : 0 < b) (hn : (lim b).length ≤ n) (hs : s = 32 * n - bl b) : (lim (b * 2 ^ s)).length = n := by
  have h1 := bl_le_ln b
  have hb2 : bl (b * 2 ^ s) = 32 * n := by
    have := bl_div (n := b * 2 ^ s) (k := s) (by have := Nat.mul_le_mul_right (2 ^ s) hb; omega)
    rw [Nat.mul_div_cancel _ (Nat.two_pow_pos s)] at this
    omega
  have h4 : (lim (b * 2 ^ s)).length ≤ n := by rw [ln_le_iff, B_pow, ← bl_le]; omega
  have h5 := bl_le_ln (b * 2 ^ s)
  omega
structure Bk (x d n j q r : Nat) : Prop where
  lt : r < d
  eq : q * d + r = x / B ^ (j * n)
theorem Bk.step {x d n j q r : Nat} (h : Bk x d n (j + 1) q r) (hd : 0 < d) :
    r * B ^ n + x / B ^ (j * n) % B ^ n < B ^ n * d ∧ Bk x d n j (q * B ^ n + (r * B ^ n + x / B ^ (j * n) % B ^ n) / d) ((r * B ^ n + x / B ^ (j * n) % B ^ n) % d) := by
  obtain ⟨h1, h2⟩ := h
  have hX : 0 < B ^ n := Nat.pow_pos B_pos
  have h3 : x / B ^ ((j + 1) * n) = x / B ^ (j * n) / B ^ n := by rw [Nat.div_div_eq_div_mul, ← Nat.pow_add, Nat.add_mul, Nat.one_mul]
  rw [h3] at h2
  generalize hy : x / B ^ (j * n) = y at h2 ⊢
  have h4 := Nat.mod_lt y hX
  have h5 : (r + 1) * B ^ n ≤ d * B ^ n := Nat.mul_le_mul_right _ h1
  have h6 := Nat.mul_comm d (B ^ n)
  rw [Nat.add_mul, Nat.one_mul] at h5
  refine ⟨by omega, Nat.mod_lt _ hd, ?_⟩
  have h7 := Nat.div_add_mod (r * B ^ n + y % B ^ n) d
  have h8 := Nat.div_add_mod y (B ^ n)
  have h9 := congrArg (B ^ n * ·) h2
  simp only [Nat.mul_add] at h9
  rw [hy, Nat.add_mul]
  have e1 : q * B ^ n * d = B ^ n * (q * d) := by simp only [Nat.mul_comm, Nat.mul_left_comm, Nat.mul_assoc]
  have e2 := Nat.mul_comm ((r * B ^ n + y % B ^ n) / d) d
  have e3 := Nat.mul_comm r (B ^ n)
  omega
theorem Bk.fin {x d n q r : Nat} (h : Bk x d n 0 q r) : q = x / d ∧ r = x % d := by
  obtain ⟨h1, h2⟩ := h
  rw [Nat.zero_mul, Nat.pow_zero, Nat.div_one] at h2
  have hd : 0 < d := by omega
  constructor
  · rw [← h2, Nat.mul_comm, Nat.mul_add_div hd, Nat.div_eq_of_lt h1, Nat.add_zero]
  rw [← h2, Nat.mul_comm, Nat.mul_add_mod, Nat.mod_eq_of_lt h1]
end Go.V
set_option synthInstance.maxSize 100000
set_option synthInstance.maxHeartbeats 2000000
set_option maxHeartbeats 2000000
namespace Go.V
open Go.RowKit Go.Proofs
theorem ZlR (hcmp : CmpOK) (cut : Nat) (hcut : 4 ≤ cut) (a b : Nat) (ha : (lim a).length ≤ 536870912) (hb : (lim b).length ≤ 536870912) (hb0 : 0 < b) : PC C Zeo [numD a, numD b, .int .i64 (cut : Int)] (fun o => o = .ret (.tup [numD (a / b), numD (a % b)])) := by
  refine PC.rn ZbV ZdW ZdX (rs := [.tmp 6, .tmp 7]) (by rw [ZdY]) ?_
  have hL := ln_pos.2 (Nat.pos_iff_ne_zero.1 hb0)
  refine ARun.seq (ARun.region ?_); refine zza ?_; refine zza ?_; refine AOps.nil (ARun.seq (ARun.seq (ARun.region ?_))); refine zzm ?_; refine zzN ?_; refine zzm ?_; refine zzi ?_; refine AOps.nil ?_
  refine ARun.ite rfl (fun h1 => ?_) (fun h1 => ?_)
  · skip
    refine ARun.seq (ARun.region ?_); refine zzm ?_; refine zzm ?_
    refine zzc rfl rfl (Zd5 hcmp a b (by omega) (by omega) hb0) ?_
    refine zze ?_; refine zze ?_; refine zza ?_; refine zza ?_; refine AOps.nil ?_
    refine ARun.ret ?_
    refine ⟨_, _, _, .tmp rfl (.tmp rfl .nil), .cons (.same _) (.cons (.same _) .nil), rfl, ?_⟩
    rfl
  refine ARun.skip (ARun.seq (ARun.region ?_)); refine zzm ?_; refine zzN ?_; refine zza ?_; refine zza ?_; refine AOps.nil (ARun.seq (ARun.block ?_))
  refine ARun.loopI (S := Nat × Nat) (fun σ : Nat × Nat => [(29, .any), (30, .any), (31, .any), (32, .any), (33, .any), (34, .any), (35, .any), (36, .any), (8, .int .i64 (σ.1 : Int)), (9, .int .i64 (σ.2 : Int))]) (fun σ : Nat × Nat => []) (fun σ : Nat × Nat => Hv (lim b).length σ.1 σ.2 ∧ σ.1 ≤ (lim b).length ∧ σ.2 ≤ (lim b).length) (fun σ : Nat × Nat => σ.1) (((lim b).length, 0)) ?_ ?_ ?_ ?_
  · exact ⟨Hv.init hL, Nat.le_refl _, by simp⟩
  · (repeat' first | exact envLe_nil | apply envLe_any | apply envLe_same)
  · rfl
  rintro ⟨n, k⟩ hinv ih
  dsimp only at hinv ih ⊢
  obtain ⟨hH, hn, hk⟩ := hinv
  refine ARun.seq (ARun.seq (ARun.region ?_)); refine zzm ?_; refine zzm ?_; refine zzi ?_; refine AOps.nil ?_
  refine ARun.ite rfl (fun h2 => ?_) (fun h2 => ?_)
  · skip
    have hH2 := hH.step (by omega)
    have hp := hH2.pw
    have hk2 : k + 1 ≤ 2 ^ (k + 1) := Nat.le_of_lt Nat.lt_two_pow_self
    refine ARun.skip (ARun.block (ARun.seq (ARun.region ?_))); refine zzm ?_
    refine y_op rfl (q_add rfl rfl (nadd1_i64 (by omega))) ?_
    refine y_op rfl (q_quo rfl rfl (by omega) (nquo_i64 (n := 2) rfl (by omega))) ?_
    refine zza ?_; refine AOps.nil (ARun.region ?_); refine zzm ?_
    refine y_op rfl (q_add rfl rfl (nadd1_i64 (by omega))) ?_
    refine zza ?_; refine AOps.nil (ARun.inBlock ?_)
    refine ARun.again (ih (((n + 1) / 2, k + 1)) ?_ ?_) ?_ ?_
    · exact ⟨hH2, by dsimp only; omega, by dsimp only; omega⟩
    · (dsimp only; omega)
    · (repeat' first | exact envLe_nil | apply envLe_any | apply envLe_same)
    rfl
  have hlo := hH.lo
  have hhi := hH.hi
  have hpw := hH.pw
  have hk64 := pow_lt_of_le hpw hb
  obtain ⟨N, hN⟩ : ∃ N, N = n * 2 ^ k := ⟨_, rfl⟩
  have hbl := bl_le_ln b
  obtain ⟨s, hs⟩ : ∃ s, s = 32 * N - bl b := ⟨_, rfl⟩
  have hdl := blk_norm hb0 (by omega) hs
  have hd0 : 0 < b * 2 ^ s := Nat.mul_pos hb0 (Nat.two_pow_pos s)
  have h2s : (lim (2 ^ s)).length ≤ N + 1 := Nat.le_trans (ln_mono (show 2 ^ s ≤ B ^ N by rw [B_pow]; exact Nat.pow_le_pow_right (by decide) (by omega))) (ln_B N)
  have hxl := ln_mul a (2 ^ s)
  have hz : numD 0 = .sl 0 [] := by rw [numD, lim_zero]; rfl
  have hJ1 := Nat.div_add_mod ((lim (a * 2 ^ s)).length + N - 1) N
  have hJ2 := Nat.mod_lt ((lim (a * 2 ^ s)).length + N - 1) (show 0 < N by omega)
  have hJ3 := Nat.div_le_self ((lim (a * 2 ^ s)).length + N - 1) N
  obtain ⟨J, hJ⟩ : ∃ J, J = ((lim (a * 2 ^ s)).length + N - 1) / N := ⟨_, rfl⟩
  rw [← hJ] at hJ1 hJ3
  refine ARun.exit rfl ?_
  refine ARun.seq (ARun.region ?_); refine zzm ?_; refine zzm ?_
  refine y_op rfl (q_shl rfl rfl (by omega) (r := (N : Nat)) ((nshl_i64 rfl hk64 (by omega)).trans (by rw [hN]))) ?_
  refine zza ?_; refine AOps.nil (ARun.seq (ARun.region ?_)); refine zzm ?_
  refine y_op rfl (q_mul rfl rfl (nmul_i64 (m := 32) (by omega))) ?_
  refine zzm ?_
  refine zzc rfl rfl (Zd3 b (by omega)) ?_
  refine y_op rfl (q_sub rfl rfl (r := (s : Nat)) ((nsub_i64 (by omega) (by omega)).trans (by rw [hs]))) ?_
  refine zza ?_; refine AOps.nil (ARun.seq (ARun.region ?_)); refine zzm ?_; refine zzm ?_
  refine zzc rfl rfl (Za8 b s (by omega) (by omega)) ?_
  refine zzm ?_; refine zzm ?_
  refine zzc rfl rfl (Za8 a s (by omega) (by omega)) ?_
  refine zza ?_; refine zza ?_; refine AOps.nil (ARun.seq (ARun.region ?_)); refine zza ?_; refine zza ?_; refine AOps.nil (ARun.seq (ARun.seq (ARun.region ?_))); refine zzm ?_; refine zzN ?_; refine zzm ?_
  refine y_op rfl (q_add rfl rfl (nadd_i64 (by omega))) ?_
  refine y_op rfl (q_sub rfl rfl (nsub1_i64 (by omega) (by omega))) ?_
  refine zzm ?_
  refine y_op rfl (q_quo rfl rfl (by omega) (nquo_i64 rfl (by omega))) ?_
  refine y_op rfl (q_sub rfl rfl (IntWalk.i64_in _ (by omega))) ?_
  refine zza ?_; refine AOps.nil (ARun.block ?_)
  refine ARun.nil0 13 rfl ?_
  refine ARun.nil0 14 rfl ?_
  rw [← hz, ← hJ]
  refine ARun.loopI (S := Nat × Nat × Nat) (fun σ : Nat × Nat × Nat => [(16, .any), (17, .any), (59, .any), (60, .any), (61, .any), (62, .any), (63, .any), (64, .any), (65, .any), (66, .any), (67, .any), (68, .any), (69, .any), (70, .any), (71, .any), (72, .any), (73, .any), (74, .any), (75, .any), (76, .any), (77, .any), (78, .any), (79, .any), (80, .any), (81, .any), (82, .any), (83, .any), (84, .any), (85, .any), (86, .any), (87, .any), (88, .any), (15, .int .i64 ((σ.1 : Int) - 1)), (13, numD σ.2.1), (14, numD σ.2.2)]) (fun σ : Nat × Nat × Nat => []) (fun σ : Nat × Nat × Nat => Bk (a * 2 ^ s) (b * 2 ^ s) N σ.1 σ.2.1 σ.2.2 ∧ σ.1 ≤ J) (fun σ : Nat × Nat × Nat => σ.1) ((J, 0, 0)) ?_ ?_ ?_ ?_
  · exact ⟨⟨hd0, by dsimp only; rw [Nat.div_eq_of_lt (Nat.lt_of_lt_of_le (ln_lt _) (Nat.pow_le_pow_right B_pos (by rw [Nat.mul_comm J N]; omega)))]; omega⟩, Nat.le_refl _⟩
  · (repeat' first | exact envLe_nil | apply envLe_any | apply envLe_same)
  · rfl
  rintro ⟨j, q, r⟩ hinv2 ih2
  dsimp only at hinv2 ih2 ⊢
  obtain ⟨hB, hj⟩ := hinv2
  have hr := hB.lt
  have hrl := ln_mono (Nat.le_of_lt hr)
  have hql : (lim q).length ≤ (lim (a * 2 ^ s)).length := by
    refine ln_mono ?_
    have h5 := hB.eq
    have h6 := Nat.div_le_self (a * 2 ^ s) (B ^ (j * N))
    have h7 := Nat.mul_le_mul_left q (show 1 ≤ b * 2 ^ s from hd0)
    omega
  refine ARun.seq (ARun.seq (ARun.region ?_)); refine zzm ?_; refine zzi ?_; refine AOps.nil ?_
  refine ARun.ite rfl (fun h3 => ?_) (fun h3 => ?_)
  · skip
    obtain ⟨i, rfl⟩ : ∃ i, j = i + 1 := ⟨j - 1, by omega⟩
    rw [show (((i + 1 : Nat) : Int) - 1) = (i : Int) by omega]
    obtain ⟨g1, g2⟩ := hB.step hd0
    have hiN : i * N ≤ (lim (a * 2 ^ s)).length := by
      have h5 : N * (i + 1) ≤ N * J := Nat.mul_le_mul_left _ hj
      rw [Nat.mul_add, Nat.mul_one, Nat.mul_comm N i] at h5
      omega
    have u1 := ln_div (a * 2 ^ s) (i * N)
    have u2 := ln_mod (a * 2 ^ s / B ^ (i * N)) N
    have u3 := ln_mul r (B ^ N)
    have u4 := ln_B N
    have u5 := ln_mul q (B ^ N)
    have u6 := ln_add (r * B ^ N) (a * 2 ^ s / B ^ (i * N) % B ^ N)
    have u7 := Nat.le_trans (ln_mono (Nat.div_le_self (r * B ^ N + a * 2 ^ s / B ^ (i * N) % B ^ N) (b * 2 ^ s))) u6
    refine ARun.skip (ARun.seq (ARun.block (ARun.seq (ARun.region ?_)))); refine zzm ?_; refine zzm ?_; refine zzm ?_
    refine y_op rfl (q_mul rfl rfl (nmul_i64 (by omega))) ?_
    refine zzc rfl rfl (ZaC _ (i * N) (by omega)) ?_
    refine zzm ?_
    refine zzc rfl rfl (Za7 _ N (by omega)) ?_
    refine zza ?_; refine AOps.nil (ARun.seq (ARun.region ?_)); refine zza ?_; refine AOps.nil (ARun.seq (ARun.region ?_)); refine zzm ?_; refine zzm ?_
    refine y_op rfl (q_mul rfl rfl (nmul_i64 (m := 32) (by omega))) ?_
    refine zzc rfl rfl (Zd4 _ N (by omega) (by omega)) ?_
    refine zzm ?_
    refine zzc rfl rfl (Zaw _ _ (by omega) (by omega)) ?_
    refine zzm ?_; refine zzm ?_; refine zzm ?_
    refine zzc rfl rfl (Zmp hcmp cut N (by omega) (by omega) _ _ hdl g1) ?_
    refine zzm ?_; refine zze ?_; refine zze ?_; refine zza ?_; refine zza ?_; refine AOps.nil (ARun.region ?_); refine zzm ?_; refine zzm ?_
    refine y_op rfl (q_mul rfl rfl (nmul_i64 (m := 32) (by omega))) ?_
    refine zzc rfl rfl (Zd4 _ N (by omega) (by omega)) ?_
    refine zzm ?_
    refine zzc rfl rfl (Zaw _ _ (by omega) (by omega)) ?_
    refine zza ?_; refine AOps.nil (ARun.inBlock (ARun.region ?_)); refine zzm ?_
    refine y_op rfl (q_sub rfl rfl (IntWalk.i64_in _ (by omega))) ?_
    refine zza ?_; refine AOps.nil ?_
    refine ARun.again (ih2 ((i, q * B ^ N + (r * B ^ N + a * 2 ^ s / B ^ (i * N) % B ^ N) / (b * 2 ^ s), (r * B ^ N + a * 2 ^ s / B ^ (i * N) % B ^ N) % (b * 2 ^ s))) ?_ ?_) ?_ ?_
    · exact ⟨g2, by dsimp only; omega⟩
    · (dsimp only; omega)
    · (repeat' first | exact envLe_nil | apply envLe_any | apply envLe_same)
    rfl
  have hj0 : j = 0 := by omega
  subst hj0
  obtain ⟨f1, f2⟩ := hB.fin
  refine ARun.exit rfl ?_
  refine ARun.seq (ARun.region ?_); refine zzm ?_; refine zzm ?_; refine zzm ?_
  refine zzc rfl rfl (Zh0 _ s (by omega) (by omega)) ?_
  refine zza ?_; refine zza ?_; refine AOps.nil ?_
  refine ARun.ret ?_
  refine ⟨_, _, _, .tmp rfl (.tmp rfl .nil), .cons (.same _) (.cons (.same _) .nil), rfl, ?_⟩
  rw [f1, f2, Nat.mul_div_mul_right _ _ (Nat.two_pow_pos s), Nat.mul_mod_mul_right, Nat.mul_div_cancel _ (Nat.two_pow_pos s)]
  rfl
end Go.V
set_option synthInstance.maxSize 100000
set_option synthInstance.maxHeartbeats 2000000
namespace Go.V
open Go.RowKit Go.Proofs
abbrev failN (e : Int) : D := .iface Zcj (.agg [.int .i64 e])
theorem Zbo (ok : Bool) (e : Int) : PC C Zk4 [.bool ok, .int .i64 e] (fun o => (ok = true ∧ o = .ret (.tup [])) ∨ (ok = false ∧ o = .pan (failN e))) := by
  refine PC.rn ZgJ Zkl Zkm (rs := []) (by rw [Zkn]) ?_
  refine ARun.seq (ARun.region ?_); refine zzm ?_; refine zzn ?_; refine AOps.nil ?_
  refine ARun.cond rfl (fun h => ?_) (fun h => ?_)
  · skip
    refine ARun.region ?_; refine zzm ?_
    refine y_op rfl (Zap rfl rfl rfl rfl rfl) ?_
    refine y_op rfl (Zg2 rfl rfl rfl) ?_
    exact Zkr rfl rfl ⟨_, _, .same _, rfl, .inr ⟨by simpa using h, rfl⟩⟩
  refine ARun.skip ?_
  refine ARun.nil ?_
  refine ⟨_, _, _, .nil, .nil, rfl, ?_⟩
  exact .inl ⟨by simpa using h, rfl⟩
def okNat (xs : List Nat) : Prop := xs.length ≤ 1024 ∧ Canon xs
theorem okNat_iff {xs : List Nat} : okNat xs ↔ xs.length ≤ 1024 ∧ (xs.length = 0 ∨ xs.getD (xs.length - 1) 0 ≠ 0) := by
  unfold okNat Canon
  rw [List.length_eq_zero_iff]
theorem Zb1 (xs : List Nat) (dc : Decidable (okNat xs)) : PC C ZgE [sln .u32 xs] (fun o => o = .ret (.bool (decide (okNat xs)))) := by
  refine PC.rn Ze9 Zjl Zjm (rs := [.tmp 2]) (by rw [Zjn]) ?_
  refine ARun.lenle 0 rfl (fun hlen => ?_)
  rw [maxLen_eq] at hlen
  refine ARun.seq (ARun.region ?_); refine zza ?_; refine AOps.nil (ARun.seq (ARun.region ?_)); refine zzm ?_; refine zzN ?_; refine zzi ?_; refine zzm ?_
  refine AOps.bool 6 rfl (fun h1 => ?_) (fun h1 => ?_)
  · skip
    replace h1 := of_decide_eq_true h1
    refine zzm ?_; refine zzN ?_; refine zzi ?_; refine zzm ?_
    refine AOps.bool 10 rfl (fun h2 => ?_) (fun h2 => ?_)
    · skip
      replace h2 : (xs.length : Int) = 0 := by simpa using h2
      refine zzk ?_; refine zzk ?_; refine zzk ?_; refine zzk ?_; refine zzk ?_; refine zzk ?_; refine zzk ?_; refine zzp ?_; refine zzp ?_; refine zza ?_; refine AOps.nil ?_
      refine ARun.ret ?_
      refine ⟨_, _, _, .tmp rfl .nil, .cons (.same _) .nil, rfl, ?_⟩
      have : okNat xs := okNat_iff.2 ⟨by omega, .inl (by omega)⟩
      rw [decide_eq_true this]
      rfl
    replace h2 : ¬ (xs.length : Int) = 0 := by simpa using h2
    refine zzm ?_; refine zzm ?_; refine zzN ?_
    refine y_op rfl (q_sub rfl rfl (nsub1_i64 (by omega) (by omega))) ?_
    refine y_op rfl (Zag rfl rfl rfl rfl (by omega) (by omega) (nts_ne (by omega)) (drop_nat rfl)) ?_
    refine y_op rfl (q_load rfl rfl rfl (nts_load (by omega))) ?_
    refine zzi ?_; refine zzp ?_; refine zzp ?_; refine zza ?_; refine AOps.nil ?_
    refine ARun.ret ?_
    refine ⟨_, _, _, .tmp rfl .nil, .cons (.same _) .nil, rfl, ?_⟩
    have e : decide (okNat xs) = (((xs.getD (xs.length - 1) 0 : Nat) : Int) != 0) := by
      by_cases hz : xs.getD (xs.length - 1) 0 = 0
      · have : ¬ okNat xs := fun x => by
          rcases (okNat_iff.1 x).2 with y | y
          · omega
          exact y hz
        rw [decide_eq_false this, hz]
        rfl
      rw [decide_eq_true (okNat_iff.2 ⟨by omega, .inr hz⟩)]
      have : ¬ ((xs.getD (xs.length - 1) 0 : Nat) : Int) = 0 := by omega
      simp only [bne, beq_eq_false_iff_ne.2 this, Bool.not_false]
    rw [e]
    rfl
  replace h1 := of_decide_eq_false h1
  refine zzk ?_; refine zzk ?_; refine zzk ?_; refine zzk ?_; refine zzk ?_; refine zzk ?_; refine zzk ?_; refine zzk ?_; refine zzk ?_; refine zzk ?_; refine zzk ?_; refine zzk ?_; refine zzp ?_; refine zza ?_; refine AOps.nil ?_
  refine ARun.ret ?_
  refine ⟨_, _, _, .tmp rfl .nil, .cons (.same _) .nil, rfl, ?_⟩
  have : ¬ okNat xs := fun x => by have := x.1; omega
  rw [decide_eq_false this]
  rfl
end Go.V
/- DEFERRED FUNCTIONS THAT RECOVER. -/
namespace Go.V
open Go.RowKit
def recD : AMode → D × AMode
  | .panicking d => (d, .recovered d)
  | m => (.niliface, m)
theorem DC.of_run {C : Ctx} {f : FuncId} {fn : Func} {id : Nat} {c2 : Code} {args : List D} {H : Heap} {m : AMode} {R : AMode → Heap → Prop} {n : Nat} {t1 t2 : Tmp} {ty1 ty2 : TypeId} {p1 p2 : String} {a1 a2 : Array Edge} {at1 : Array TypeId} {env1 env2 : List D}
    (hf : C.P.funcs[f]? = some fn) (hen : Enters C.P f) (hb : fn.body = some (.seq (.region id #[⟨some t1, .call ⟨.builtin .recover, #[], at1⟩, ty1, p1, a1, none⟩, ⟨some t2, .assign (.tmp t1), ty2, p2, a2, none⟩] false) c2)) (hn : fn.ntmps = n) (hres : fn.results.toList = [])
    (hm : ∀ d, m ≠ .recovered d) (he1 : envPut (args ++ List.replicate (n - args.length) (.tup [])) (some t1) (recD m).1 = env1) (ht1 : env1[t1]? = some (recD m).1) (he2 : envPut env1 (some t2) (recD m).1 = env2)
    (h : ARun C ⟨none, fun x _ H' df => df = [] ∧ match x with | .ret => R (recD m).2 H' | .norm => R (recD m).2 H' | _ => False⟩ [.code c2] env2 H []) : DC C f H args m R := by
  refine ⟨hen, fun L0 w μ vs u hs ha hu c₀ cs hc₀ => ?_⟩
  have hl := VRs_length ha
  let b : Frame := { (default : Frame) with fn := f, kind := .deferred }
  let a : Act := { tmps := vs.toArray ++ Array.replicate (fn.ntmps - vs.toArray.size) undef, defers := [] }
  have henter : Frame.enter C.P f vs.toArray .deferred = b.at a [.code (.seq (.region id #[⟨some t1, .call ⟨.builtin .recover, #[], at1⟩, ty1, p1, a1, none⟩, ⟨some t2, .assign (.tmp t1), ty2, p2, a2, none⟩] false) c2)] := by
    simp [Frame.enter, Frame.at, hf, hb, b, a]
  have htm : VRs w (forb L0 μ H) μ H (args ++ List.replicate (n - args.length) (.tup [])) a.tmps.toList := by
    have : a.tmps.toList = vs ++ List.replicate (n - args.length) undef := by
      simp [a, hn, hl]
    rw [this]
    exact VRs_append ha (VRs_repl _)
  have hrec : ∃ (v : Value) (u' : FrameMode), VR w (forb L0 μ H) μ H (recD m).1 v ∧ ModeR w (forb L0 μ H) μ H (recD m).2 u' ∧
      (match recoverD (c₀ :: cs) with | some (v, cs') => (v, cs') | none => (.nilIface, c₀ :: cs)) = (v, { c₀ with mode := u' } :: cs) := by
    cases m with
    | returning =>
      have hu' : u = .returning := hu
      subst hu'
      refine ⟨.nilIface, .returning, by simp [recD, VR], rfl, ?_⟩
      have : c₀ = { c₀ with mode := .returning } := by rw [← hc₀]
      simp only [recoverD, hc₀]
      rw [← this]
    | panicking d =>
      obtain ⟨v, hu', hvd⟩ := hu
      subst hu'
      refine ⟨v, .panicking [{ v := v, recovered := true }], hvd, ⟨v, rfl, hvd⟩, ?_⟩
      simp only [recoverD, hc₀, pan1]
    | recovered d => exact (hm d rfl).elim
  obtain ⟨v, u', hv, hu', hrd⟩ := hrec
  let aa : Act := (a.put (some t1) v).put (some t2) v
  have hv1 : VRs w (forb L0 μ H) μ H env1 (a.put (some t1) v).tmps.toList := by rw [← he1]; exact VRs_put htm hv
  have hev1 : (a.put (some t1) v).eval (.tmp t1) = v := by
    obtain ⟨u1, k1, k2⟩ := VRs_get hv1 ht1
    simp only [Act.eval]
    rw [getD_of_list k1]
    have : (a.put (some t1) v).tmps.toList[t1]? = some v := by
      have hlt := (List.getElem?_eq_some_iff.1 k1).1
      simp only [Act.put, Array.toList_setIfInBounds] at hlt ⊢
      rw [List.getElem?_set]
      simp at hlt ⊢
      exact hlt
    rw [this] at k1
    injection k1 with k1
    exact k1.symm
  have hv2 : VRs w (forb L0 μ H) μ H env2 aa.tmps.toList := by rw [← he2]; exact VRs_put hv1 hv
  have hstep : ∃ e a' cs' w', (e = .normal ∧ a' = aa ∧ cs' = { c₀ with mode := u' } :: cs ∧ w' = w) ∧ Arrives C.P (lone (b.at a (.inRegion #[⟨some t1, .call ⟨.builtin .recover, #[], at1⟩, ty1, p1, a1, none⟩, ⟨some t2, .assign (.tmp t1), ty2, p2, a2, none⟩] [0, 1] :: [.code c2])) (c₀ :: cs) w) b [.code c2] cs' e a' w' := by
    refine wp_opsS (P := C.P) (Q := fun e a' cs' w' => e = .normal ∧ a' = aa ∧ cs' = { c₀ with mode := u' } :: cs ∧ w' = w) [0, 1] a (c₀ :: cs) w ?_ b [.code c2] rfl rfl
    have hasg : ∀ (w : World), (execOp (a.put (some t1) v).eval ⟨some t2, .assign (.tmp t1), ty2, p2, a2, none⟩).run C.P w = .ok (.value v) w := by
      intro w; simp only [execOp, hev1, Sem.run_pure]
    have hro : ∀ (w : World), (execOp a.eval ⟨some t1, .call ⟨.builtin .recover, #[], at1⟩, ty1, p1, a1, none⟩).run C.P w = .ok .recover w := by
      intro w; simp [execOp, resolve, invoke, builtin]
    have fin : ∀ cs', cs' = { c₀ with mode := u' } :: cs → wpOpsS C.P #[⟨some t1, .call ⟨.builtin .recover, #[], at1⟩, ty1, p1, a1, none⟩, ⟨some t2, .assign (.tmp t1), ty2, p2, a2, none⟩] (fun e a' cs' w' => e = .normal ∧ a' = aa ∧ cs' = { c₀ with mode := u' } :: cs ∧ w' = w) [1] (a.put (some t1) v) cs' w := by
      intro cs' hcs
      simp [wpOpsS, Region.wanted, hasg, Oper.upon, hcs, aa]
    cases hrr : recoverD (c₀ :: cs) with
    | none =>
      rw [hrr] at hrd
      injection hrd with h1 h2
      subst h1
      have := fin (c₀ :: cs) h2
      simpa [wpOpsS, Region.wanted, hro, hrr] using this
    | some p =>
      obtain ⟨pv, pcs⟩ := p
      rw [hrr] at hrd
      injection hrd with h1 h2
      subst h1
      have := fin pcs h2
      simpa [wpOpsS, Region.wanted, hro, hrr] using this
  obtain ⟨e0, a0, cs0, w0, ⟨q1, q2, q3, q4⟩, harr⟩ := hstep
  rw [q1, q2, q3, q4] at harr
  obtain ⟨e, a', w', ⟨x, env, H', μ', df, ⟨hdf, hR⟩, s1, hv', hd', hx', he'⟩, harr2⟩ := h.out L0 w μ H w μ aa hs hv2 rfl (Evo.refl _ _ _) b ({ c₀ with mode := u' } :: cs) rfl
  subst hdf
  have hd0 : a'.defers = [] := hd'
  have hsteps : Steps C.P (lone (b.at a [.code (.seq (.region id #[⟨some t1, .call ⟨.builtin .recover, #[], at1⟩, ty1, p1, a1, none⟩, ⟨some t2, .assign (.tmp t1), ty2, p2, a2, none⟩] false) c2)]) (c₀ :: cs) w) (lone (b.at aa [.code c2]) ({ c₀ with mode := u' } :: cs) w) :=
    Steps.trans (.one step_seq) (Steps.trans (.one step_region) harr)
  rw [← henter] at hsteps
  have eAt : b.atR aa [.code c2] = b.at aa [.code c2] := Frame.atR_of_none rfl _ _
  rw [← eAt] at hsteps
  obtain ⟨rv, r1, _⟩ := results_ok s1 hv' (fn := fn) (ds := []) (by rw [hres]; exact .nil)
  have hmode : ModeR w' (forb L0 μ' H') μ' H' (recD m).2 u' := hu'.step (he'.step L0)
  cases x with
  | ret =>
    have hx2 : e = .ret := hx'
    subst hx2
    obtain ⟨k, hst⟩ := harr2
    exact ⟨.returned rv, u', w', { b.atR a' (.code .ret :: k) with mode := .returning }, ⟨rv, (recD m).2, H', μ', rfl, hR, s1, hmode, he'⟩, Steps.trans hsteps (Steps.trans hst (.one (stepR_ret rfl))), rfl, rfl, hd0, fn, hf, r1⟩
  | norm =>
    have hx2 : e = .normal := hx'
    subst hx2
    exact ⟨.returned rv, u', w', { b.atR a' [] with mode := .returning }, ⟨rv, (recD m).2, H', μ', rfl, hR, s1, hmode, he'⟩, Steps.trans hsteps (Steps.trans harr2 (.one (stepR_end rfl))), rfl, rfl, hd0, fn, hf, r1⟩
  | exit id => exact hR.elim
  | pan d => exact hR.elim
end Go.V
/- THE OPERATION defer. -/
namespace Go.V
open Go.RowKit
section
variable {C : Ctx} {Q : Post} {ops : Array Oper} {rest : List Oper} {k : List Item} {env env' : List D} {H : Heap} {df : List ADef}
variable {dst : Option Tmp} {ty : TypeId} {pos : String} {aft : Array Edge} {gd : Option (Nat × Bool)} {x : Operand}
theorem Zdl {f : FuncId} {args : List Operand} {ds : List D} {tys : Array TypeId} [hput : Put env dst (.tup []) env'] (hg : gOk ops.toList env gd = some true) (hx : evO C env x = some (.clos f [])) (ha : evOs C env args = some ds) (hk : AOps C Q ops rest k env' H (.fn f ds :: df)) (hrn : Q.rd = none := by rfl) :
    AOps C Q ops (⟨dst, .defer ⟨.value x, args.toArray, tys⟩, ty, pos, aft, gd⟩ :: rest) k env H df := by
  refine ⟨fun i hi => ⟨fun L0 w0 μ0 H0 w μ a hs hv hd he b cs hrd => ?_⟩⟩
  have ho : ops[i]? = some ⟨dst, .defer ⟨.value x, args.toArray, tys⟩, ty, pos, aft, gd⟩ := by have := drop_get hi; simpa using this
  have hw := gOk_ok (C := C) hv (o := ⟨dst, .defer ⟨.value x, args.toArray, tys⟩, ty, pos, aft, gd⟩) hg
  have ex := evO_ok hs hv hx
  have ea := evOs_ok hs hv ha
  simp only [VR, VRs] at ex
  obtain ⟨cvs, ex, rfl⟩ := ex
  let d : Deferred := { target := .fn (.func f) #[], args := (args.map a.eval).toArray }
  have hrun : (execOp a.eval ⟨dst, .defer ⟨.value x, args.toArray, tys⟩, ty, pos, aft, gd⟩).run C.P w = .ok (.defer d) w := by
    simp [execOp, resolve, ex, Deferred.ofValue, d]
  have hwp : Oper.wp C.P ⟨dst, .defer ⟨.value x, args.toArray, tys⟩, ty, pos, aft, gd⟩ a w (fun a' w' => a' = ({ a with defers := d :: a.defers } : Act).put dst undef ∧ w' = w) (fun _ _ _ => False) := by
    unfold Oper.wp
    rw [hrun]
    exact ⟨rfl, rfl⟩
  rw [List.length_cons, List.range'_succ]
  rcases op_step (rest := List.range' (i + 1) rest.length) ho hw hwp (by rintro ⟨_, _, h⟩; exact h) b (.inl (by rw [hrn] at hrd; exact hrd)) k cs with ⟨a', w', ⟨h1, h2⟩, hst⟩ | ⟨_, _, _, h, _⟩
  · subst h2
    have hv2 : VRs w' (forb L0 μ H) μ H env' a'.tmps.toList := by
      rw [h1, ← hput.eq]
      exact VRs_put (a := { a with defers := d :: a.defers }) hv (by simp only [VR]; exact ⟨[], rfl, by simp [VRs]⟩)
    have hd2 : DfR w' (forb L0 μ H) μ H (.fn f ds :: df) a'.defers := by
      rw [h1, put_defers]
      simp only [DfR]
      exact ⟨_, _, rfl, ea, hd⟩
    obtain ⟨e, a2, w2, h3, h4⟩ := (hk.out (i + 1) (drop_next hi)).out L0 w0 μ0 H0 w' μ a' hs hv2 hd2 he b cs hrd
    exact ⟨e, a2, w2, h3, .of_steps hst h4⟩
  exact h.elim
end
end Go.V
/- INTERFACES: comparison with nil; assertions of a concrete type. -/
namespace Go.V
open Go.RowKit
def isIf (P : Program) (t : TypeId) : Bool :=
  match P.underlying t with
  | some (.interface _) => true
  | _ => false
section
variable {P : Program} {t : TypeId}
theorem isIf_under (h : isIf P t = true) : ∃ ms, P.underlying t = some (.interface ms) := by
  unfold isIf at h
  cases hu : P.underlying t with
  | none => simp [hu] at h
  | some d => cases d <;> first | (simp [hu] at h; done) | exact ⟨_, rfl⟩
theorem run_ifNe (w : World) (h : isIf P t = true) (u : TypeId) (x : Value) : (binOp .neq t (.iface u x) .nilIface).run P w = .ok (.bool true) w := by
  obtain ⟨ms, hu⟩ := isIf_under h
  simp only [binOp]
  simp [Op.equal, Op.maxDepth]
  rw [Op.equalIn]
  simp [run_underlying hu]
theorem run_ifNeNil (w : World) (h : isIf P t = true) : (binOp .neq t .nilIface .nilIface).run P w = .ok (.bool false) w := by
  obtain ⟨ms, hu⟩ := isIf_under h
  simp only [binOp]
  simp [Op.equal, Op.maxDepth]
  rw [Op.equalIn]
  simp [run_underlying hu]
theorem run_ifEq (w : World) (h : isIf P t = true) (u : TypeId) (x : Value) : (binOp .eql t (.iface u x) .nilIface).run P w = .ok (.bool false) w := by
  obtain ⟨ms, hu⟩ := isIf_under h
  simp only [binOp]
  simp [Op.equal, Op.maxDepth]
  rw [Op.equalIn]
  simp [run_underlying hu]
theorem run_ifEqNil (w : World) (h : isIf P t = true) : (binOp .eql t .nilIface .nilIface).run P w = .ok (.bool true) w := by
  obtain ⟨ms, hu⟩ := isIf_under h
  simp only [binOp]
  simp [Op.equal, Op.maxDepth]
  rw [Op.equalIn]
  simp [run_underlying hu]
end
section
variable {C : Ctx} {env : List D} {H : Heap} {dst : Option Tmp} {ty : TypeId} {pos : String} {aft : Array Edge} {gd : Option (Nat × Bool)} {x : Operand} {T T' U xT : TypeId} {d : D} {te : TE}
theorem q_ifNe (hi : isIf C.P U = true) (hx : evO C env x = some (.iface T d)) : OpQ C ⟨dst, .binOp .neq U x (.const .nilIface) T', ty, pos, aft, gd⟩ env H (.bool true) :=
  OpQ.of_run fun L w μ a he => by
    have ex := he _ _ hx
    simp only [VR] at ex
    obtain ⟨u, ex, _⟩ := ex
    refine ⟨.bool true, ?_, by simp only [VR]⟩
    have hg : (eqGuard .neq U x (.const .nilIface) (.iface T u) .nilIface).run C.P w = .ok () w := by
      unfold eqGuard; simp
    have ec : a.eval (.const .nilIface) = .nilIface := rfl
    simp only [execOp, ex, ec, Sem.run_bind, hg, Result.andThen_ok, run_ifNe w hi T u, Sem.run_pure]
theorem ZjR (hi : isIf C.P U = true) (hx : evO C env x = some .niliface) : OpQ C ⟨dst, .binOp .neq U x (.const .nilIface) T', ty, pos, aft, gd⟩ env H (.bool false) :=
  OpQ.of_run fun L w μ a he => by
    have ex := he _ _ hx
    simp only [VR] at ex
    refine ⟨.bool false, ?_, by simp only [VR]⟩
    have hg : (eqGuard .neq U x (.const .nilIface) .nilIface .nilIface).run C.P w = .ok () w := by
      unfold eqGuard; simp
    have ec : a.eval (.const .nilIface) = .nilIface := rfl
    simp only [execOp, ex, ec, Sem.run_bind, hg, Result.andThen_ok, run_ifNeNil w hi, Sem.run_pure]
theorem Zcg (ht : C.ty T = some te) (hc : conK te.k = true) (hx : evO C env x = some (.iface T d)) : OpQ C ⟨dst, .typeAssert x xT T true, ty, pos, aft, gd⟩ env H (.tup [d, .bool true]) :=
  OpQ.of_run fun L w μ a he => by
    have ex := he _ _ hx
    simp only [VR] at ex
    obtain ⟨u, ex, hu⟩ := ex
    refine ⟨.tuple #[u, .bool true], ?_, by simp only [VR, VRs]; exact ⟨[u, .bool true], rfl, _, _, rfl, hu, _, _, rfl, rfl, rfl⟩⟩
    have hun := (ty_tic ht).1.run_un w
    have hk := (C.ok T te ht).2
    have hne : ∀ ms, tkDesc C.P T ≠ .interface ms := by
      intro ms e
      have hu2 := (ty_tic ht).1.un
      rw [e] at hu2
      cases hkk : te.k <;> rw [hkk] at hk hc <;> simp only [TKok] at hk <;> first | (cases hc; done) | (rw [hu2] at hk; cases hk; done) | (obtain ⟨_, h1, _⟩ := hk; rw [hu2] at h1; cases h1; done) | (obtain ⟨_, h1⟩ := hk; rw [hu2] at h1; cases h1)
    simp only [execOp, ex, Instr.typeAssert, Sem.run_bind, hun, Result.andThen_ok]
    generalize tkDesc C.P T = dsc at hne
    cases dsc <;> first | (exact (hne _ rfl).elim) | simp
end
end Go.V
set_option synthInstance.maxSize 100000
set_option synthInstance.maxHeartbeats 2000000
namespace Go.V
open Go.RowKit Go.Proofs
theorem Zeu (o0 : Option AObj) (e0 : Int) : DC C Zaz [o0, some ⟨[.int .i64 e0], Zah, 1, true, none⟩] [.ptr 1 0] .returning (fun m' H' => m' = .returning ∧ H' = [o0, some ⟨[.int .i64 e0], Zah, 1, true, none⟩]) := by
  refine DC.of_run Zbc ZbD rfl ZbE (by rw [ZbF]) (fun _ h => by cases h) (by simp only [List.length_cons, List.length_nil, Nat.reduceAdd, Nat.reduceSub, List.replicate_succ, List.replicate_zero, List.cons_append, List.nil_append, recD, envPut, List.set_cons_succ, List.set_cons_zero]; exact rfl) rfl (by simp only [recD, envPut, List.set_cons_succ, List.set_cons_zero]; exact rfl) ?_
  refine ARun.seq (ARun.region ?_); refine zzm ?_
  refine y_op rfl (ZjR (by kernel_rfl) rfl) ?_
  refine AOps.nil ?_
  refine ARun.condF rfl ?_
  refine ARun.skip ?_
  refine ARun.nil ?_
  exact ⟨rfl, rfl, rfl⟩
theorem Zev (o0 : Option AObj) (e0 e : Int) : DC C Zaz [o0, some ⟨[.int .i64 e0], Zah, 1, true, none⟩] [.ptr 1 0] (.panicking (failN e)) (fun m' H' => m' = .recovered (failN e) ∧ H' = [o0, some ⟨[.int .i64 e], Zah, 1, true, none⟩, some ⟨[.int .i64 e], Zcj, 1, true, none⟩]) := by
  refine DC.of_run Zbc ZbD rfl ZbE (by rw [ZbF]) (fun _ h => by cases h) (by simp only [List.length_cons, List.length_nil, Nat.reduceAdd, Nat.reduceSub, List.replicate_succ, List.replicate_zero, List.cons_append, List.nil_append, recD, envPut, List.set_cons_succ, List.set_cons_zero]; exact rfl) rfl (by simp only [recD, envPut, List.set_cons_succ, List.set_cons_zero]; exact rfl) ?_
  refine ARun.seq (ARun.region ?_); refine zzm ?_
  refine y_op rfl (q_ifNe (by kernel_rfl) rfl) ?_
  refine AOps.nil ?_
  refine ARun.condT rfl ?_
  refine ARun.seq (ARun.region ?_); refine zzm ?_
  refine y_op rfl (Zcg rfl rfl rfl) ?_
  refine zzm ?_; refine zze ?_; refine zze ?_
  refine y_new rfl (Zae rfl rfl rfl rfl) ?_
  refine y_new rfl (Zaa rfl rfl rfl rfl rfl rfl rfl rfl (Nat.le_of_ble_eq_true rfl) rfl) ?_
  refine zza ?_; refine AOps.nil (ARun.seq (ARun.seq (ARun.region ?_))); refine zzm ?_; refine zzn ?_; refine AOps.nil ?_
  refine ARun.condF rfl ?_
  refine ARun.skip (ARun.region ?_); refine zzm ?_
  refine y_op rfl (q_fldP rfl rfl rfl (by decide)) ?_
  refine y_op rfl (Zac rfl rfl rfl rfl rfl) ?_
  refine y_op rfl (q_nil rfl rfl) ?_
  refine y_new rfl (Zad rfl rfl rfl rfl rfl rfl (Nat.le_of_ble_eq_true rfl) rfl) ?_
  refine AOps.nil ?_
  refine ARun.nil ?_
  exact ⟨rfl, rfl, rfl⟩
end Go.V
set_option synthInstance.maxSize 100000
set_option synthInstance.maxHeartbeats 2000000
namespace Go.V
open Go.RowKit Go.Proofs
def idxF (p : D → Bool) : List D → Nat → Int
  | [], _ => -1
  | d :: ds, i => bif p d then (i : Int) else idxF p ds (i + 1)
theorem idxF_any (p : D → Bool) : ∀ (ds : List D) (i : Nat), decide (idxF p ds i ≥ 0) = ds.any p
  | [], _ => by simp [idxF]
  | d :: ds, i => by
    simp only [idxF, List.any_cons]
    have ih := idxF_any p ds (i + 1)
    by_cases h : p d = true
    · simp [h]
    simp only [Bool.not_eq_true] at h
    simp only [h, cond_false, Bool.false_or]
    exact ih
theorem idxF_drop {p : D → Bool} {ds : List D} {i : Nat} {d : D} (h : ds[i]? = some d) : idxF p (ds.drop i) i = bif p d then (i : Int) else idxF p (ds.drop (i + 1)) (i + 1) := by
  have hl := (List.getElem?_eq_some_iff.1 h).1
  have he := (List.getElem?_eq_some_iff.1 h).2
  rw [List.drop_eq_getElem_cons hl, idxF, he]
theorem ZlS (ds : List D) (n : Nat) (hn : ds.length = n) (f : FuncId) (caps : List D) (p : D → Bool) (hc : D.pure.pures caps = true) (hf : ∀ d ∈ ds, PC C f ([d] ++ caps) (fun o => o = .ret (.bool (p d)))) : PC C Zba [.sl n ds, .clos f caps] (fun o => o = .ret (.int .i64 (idxF p ds 0))) := by
  refine PC.run Zas Za1 rfl Za2 (by simp [D.pure.pures, D.pure, hc]) (rs := [.tmp 4]) (by rw [Za3]) (by simp only [List.length_cons, List.length_nil, Nat.reduceAdd, Nat.reduceSub, List.replicate_succ, List.replicate_zero, List.cons_append, List.nil_append]; exact rfl) ?_
  refine ARun.lenle 0 rfl (fun hlen => ?_)
  rw [maxLen_eq] at hlen
  refine ARun.seq (ARun.region ?_); refine zza ?_; refine AOps.nil (ARun.seq (ARun.seq (ARun.region ?_))); refine zzm ?_; refine zzN ?_; refine zzm ?_; refine AOps.nil (ARun.block ?_)
  refine ARun.loopI (S := Nat) (fun i : Nat => [(4, .any), (5, .any), (9, .any), (10, .any), (11, .any), (12, .any), (13, .any), (14, .any), (15, .any), (16, .any), (17, .any), (18, .any), (8, .int .i64 (i : Int))]) (fun i : Nat => []) (fun i : Nat => i ≤ n ∧ idxF p (ds.drop i) i = idxF p ds 0) (fun i : Nat => n - i) (0) ?_ ?_ ?_ ?_
  · exact ⟨Nat.zero_le _, rfl⟩
  · (repeat' first | exact envLe_nil | apply envLe_any | apply envLe_same)
  · rfl
  rintro i hinv ih
  obtain ⟨hi, he⟩ := hinv
  refine ARun.seq (ARun.region ?_); refine zzi ?_; refine AOps.nil (ARun.seq ?_)
  refine ARun.ite rfl (fun h => ?_) (fun h => ?_)
  · skip
    have hlt : i < ds.length := by omega
    obtain ⟨d, hd⟩ : ∃ d, ds[i]? = some d := ⟨ds[i], by simp [hlt]⟩
    have hx := idxF_drop (p := p) hd
    refine ARun.skip (ARun.seq (ARun.block (ARun.seq (ARun.region ?_)))); refine zzm ?_; refine zza ?_; refine AOps.nil (ARun.seq (ARun.region ?_)); refine zzm ?_; refine zzm ?_; refine zzm ?_
    refine y_op rfl (Zag rfl rfl rfl rfl (by omega) (by omega) (fun e => by rw [e] at hlt; simp at hlt) (drop_nat rfl)) ?_
    refine y_op rfl (q_load rfl rfl rfl (by rw [List.getElem?_drop]; exact hd)) ?_
    refine zzc rfl rfl (hf d (List.mem_of_getElem? hd)) ?_
    refine AOps.nil ?_
    refine ARun.cond rfl (fun hp => ?_) (fun hp => ?_)
    · skip
      refine ARun.seq (ARun.region ?_); refine zzm ?_; refine zza ?_; refine AOps.nil ?_
      refine ARun.ret ?_
      refine ⟨_, _, _, .tmp rfl .nil, .cons (.same _) .nil, rfl, ?_⟩
      rw [← he, hx, hp]
      rfl
    refine ARun.skip (ARun.inBlock (ARun.region ?_))
    refine y_op rfl (q_add rfl rfl (nadd1_i64 (by omega))) ?_
    refine zzm ?_; refine AOps.nil ?_
    refine ARun.again (ih ((i + 1)) ?_ ?_) ?_ ?_
    · exact ⟨by omega, by rw [← he, hx, hp]; rfl⟩
    · omega
    · (repeat' first | exact envLe_nil | apply envLe_any | apply envLe_same)
    rfl
  refine ARun.exit rfl ?_
  refine ARun.seq (ARun.region ?_); refine zza ?_; refine AOps.nil ?_
  refine ARun.ret ?_
  refine ⟨_, _, _, .tmp rfl .nil, .cons (.same _) .nil, rfl, ?_⟩
  rw [← he, List.drop_of_length_le (by omega)]
  rfl
end Go.V
set_option synthInstance.maxSize 100000
set_option synthInstance.maxHeartbeats 2000000
namespace Go.V
open Go.RowKit Go.Proofs
theorem ZjS (ds : List D) (n : Nat) (hn : ds.length = n) (f : FuncId) (caps : List D) (p : D → Bool) (hc : D.pure.pures caps = true) (hf : ∀ d ∈ ds, PC C f ([d] ++ caps) (fun o => o = .ret (.bool (p d)))) : PC C ZaR [.sl n ds, .clos f caps] (fun o => o = .ret (.bool (ds.any p))) := by
  refine PC.run Zam ZaM rfl ZaN (by simp [D.pure.pures, D.pure, hc]) (rs := [.tmp 4]) (by rw [ZaO]) (by simp only [List.length_cons, List.length_nil, Nat.reduceAdd, Nat.reduceSub, List.replicate_succ, List.replicate_zero, List.cons_append, List.nil_append]; exact rfl) ?_
  refine ARun.seq (ARun.region ?_); refine zza ?_; refine AOps.nil (ARun.seq (ARun.region ?_)); refine zzm ?_; refine zzm ?_
  refine zzc rfl rfl (ZlS ds n hn f caps p hc hf) ?_
  refine zzi ?_; refine zza ?_; refine AOps.nil ?_
  refine ARun.ret ?_
  refine ⟨_, _, _, .tmp rfl .nil, .cons (.same _) .nil, rfl, ?_⟩
  rw [← idxF_any p ds 0]
  rfl
end Go.V
/- RANGES OVER FUNCTIONS: the statement; the call of yield; a round. -/
namespace Go.V
open Go.RowKit
def QRound (id : Nat) (K : Option Code → Heap → Prop) : Post := ⟨some id, fun x _ H df => df = [] ∧ match x with
  | .norm => K none H
  | .ret => K (some .ret) H
  | .exit i => K (some (.exit i)) H
  | .pan _ => False⟩
theorem run_getLoopB {P : Program} {w : World} {l : Nat} {r : Loop} (h : w.heap[l]? = some (.loop r)) : (Instr.getLoop l).run P w = .ok r w := by
  simp [Instr.getLoop, getObj, Sem.run, Sem.run_bind, h, Result.andThen]
theorem run_setObjB {P : Program} {w : World} {l : Nat} {r : Loop} (o : Obj) (h : w.heap[l]? = some (.loop r)) : (setObj l o).run P w = .ok () (putB w l o) := by simp [setObj, Sem.run, h, putB]
theorem run_beginRoundB {P : Program} {w : World} {l : Nat} {r : Loop} (h : w.heap[l]? = some (.loop r)) (hr : r.state = .ready) : (Instr.beginRound l).run P w = .ok () (putB w l (.loop { r with state := .busy })) := by
  simp [Instr.beginRound, Sem.run_bind, run_getLoopB h, run_setObjB _ h, Result.andThen, hr]
theorem run_endRoundB {P : Program} {w : World} {l : Nat} {r : Loop} (jump : Option Code) (h : w.heap[l]? = some (.loop r)) : (Instr.endRound l jump).run P w = .ok (.bool jump.isNone) (putB w l (.loop { r with state := if jump.isNone then .ready else .done, pending := jump })) := by
  simp [Instr.endRound, Sem.run_bind, run_getLoopB h, run_setObjB _ h, Result.andThen]
theorem run_endLoopB {P : Program} {w : World} {l : Nat} {r : Loop} (h : w.heap[l]? = some (.loop r)) (hb : r.state ≠ .busy) : (Instr.endLoop l).run P w = .ok r.pending (putB w l (.loop { r with state := .exhausted })) := by
  simp [Instr.endLoop, Sem.run_bind, run_getLoopB h, run_setObjB _ h, Result.andThen, hb]
theorem run_yieldB {P : Program} {w : World} {l : Nat} {r : Loop} {args : Array Value} (h : w.heap[l]? = some (.loop r)) (hs : args.size = r.params.size) :
    (Instr.yield l args).run P w = .ok (.round l r.fn ((r.params.zip args).foldl (fun tmps (t, a) => tmps.setIfInBounds t a) r.tmps) r.assign r.body) w := by
  simp [Instr.yield, Sem.run_bind, run_getLoopB h, Result.andThen, hs]
theorem run_enterLoopB {P : Program} (w : World) (fn : FuncId) (tmps : Array Value) (ps : Array Tmp) (assign body : Code) :
    (Instr.enterLoop fn tmps ps assign body none).run P w =
      .ok (w.heap.size + 1, [{ target := .collected w.heap.size, args := #[] }])
        ((w.alloc (.deferred (some []))).alloc (.loop { state := .ready, pending := none, fn, tmps, params := ps, assign, body, defers := w.heap.size })) := by
  unfold Instr.enterLoop
  simp only [Sem.run_bind, run_newObj_alloc, Result.andThen, Sem.run_pure, World.size_alloc]
abbrev loopO (st : LSt) (ps : Array Tmp) (asg bd : Code) (envL : List D) : Option AObj := some ⟨[], 0, 0, true, some (.loop st ps asg bd envL)⟩
abbrev defsO : Option AObj := some ⟨[], 0, 0, true, some .defs⟩
section
variable {C : Ctx} {Q : Post} {ops : Array Oper} {rest : List Oper} {k : List Item} {env : List D} {H : Heap} {df : List ADef} {id : Nat} {ps : Array Tmp} {asg bd : Code} {envL : List D}
theorem SR.loopSt {L0 : Nat → Prop} {w : World} {μ : List Nat} {st st' : LSt} {b : Nat} {r r' : Loop} (hs : SR C L0 w μ H) (ho : H[id]? = some (loopO st ps asg bd envL)) (hb : μ[id]? = some b) (hw : w.heap[b]? = some (.loop r)) (h1 : r'.params = r.params) (h2 : r'.assign = r.assign) (h3 : r'.body = r.body) (h4 : r'.tmps = r.tmps) (h5 : LStR st' r') :
    SR C L0 (putB w b (.loop r')) μ (H.set id (loopO st' ps asg bd envL)) ∧ Evo w (putB w b (.loop r')) μ μ H (H.set id (loopO st' ps asg bd envL)) := by
  obtain ⟨_, r0, k1, k2, k3, k4, k5, k6⟩ := (hs.obj id _ b ho hb).spec rfl
  rw [hw] at k1
  injection k1 with k1
  injection k1 with k1
  subst k1
  refine hs.putS (x' := loopO st' ps asg bd envL) ho hb rfl (by simp) fun o' e => ?_
  injection e with e
  subst e
  exact ⟨rfl, rfl, rfl, .of_spec rfl ⟨rfl, r', putB_same (hs.block_lt ho hb), h1.trans k2, h2.trans k3, h3.trans k4, by rw [h4]; exact k5, h5⟩⟩
theorem ARun.beginRound (hq : Q.rd = some id) (ho : H[id]? = some (loopO .ready ps asg bd envL)) (h : ARun C Q k env (H.set id (loopO .busy ps asg bd envL)) df) : ARun C Q (.beginRound :: k) env H df := by
  refine ⟨fun L0 w0 μ0 H0 w μ a hs hv hd he b cs hrd => ?_⟩
  have hrd' := hrd
  rw [hq] at hrd'
  obtain ⟨l, hl, hbr⟩ := hrd'
  obtain ⟨_, r, k1, k2, k3, k4, k5, k6, k7⟩ := (hs.obj id _ l ho hl).spec rfl
  have hst := stepR_beginRound (P := C.P) (b := b) (a := a) (k := k) (cs := cs) hbr (run_beginRoundB k1 k6)
  obtain ⟨s1, e1⟩ := hs.loopSt (st' := .busy) (r' := { r with state := .busy }) ho hl k1 rfl rfl rfl rfl ⟨rfl, k7⟩
  have st := e1.step L0
  obtain ⟨e, a', w', h3, h4⟩ := h.out L0 w0 μ0 H0 _ μ a s1 (VRs.step st hv) (DfR.step st hd) (he.trans e1) b cs hrd
  exact ⟨e, a', w', h3, .of_steps (.one hst) h4⟩
def setL (envL : List D) : List (Nat × D) → List D
  | [] => envL
  | (t, d) :: l => setL (envL.set t d) l
theorem VRs_setL {w : World} {L : Nat → Prop} {μ : List Nat} {H : Heap} : ∀ {ps : List Tmp} {ds : List D} {vs : List Value} {envL : List D} {tmps : Array Value}, VRs w L μ H ds vs → VRs w L μ H envL tmps.toList →
    VRs w L μ H (setL envL (ps.zip ds)) ((ps.zip vs).foldl (fun (t : Array Value) (p : Tmp × Value) => t.setIfInBounds p.1 p.2) tmps).toList
  | [], ds, vs, envL, tmps, _, h => by simpa [setL] using h
  | p :: ps, [], vs, envL, tmps, h1, h => by simp only [VRs] at h1; subst h1; simpa [setL] using h
  | p :: ps, d :: ds, vs, envL, tmps, h1, h => by
    simp only [VRs] at h1
    obtain ⟨v, us, rfl, h2, h3⟩ := h1
    simp only [List.zip_cons_cons, setL, List.foldl_cons]
    refine VRs_setL h3 ?_
    rw [Array.toList_setIfInBounds]
    exact VRs_set h2 h
variable {dst : Option Tmp} {ty : TypeId} {pos : String} {aft : Array Edge} {gd : Option (Nat × Bool)} {x : Operand}
theorem AOps.yield {ds envR : List D} {args : List Operand} {tys : Array TypeId} {ps : List Tmp} (K : Option Code → Heap → Prop) (hg : gOk ops.toList env gd = some true) (hx : evO C env x = some (.yld id)) (ha : evOs C env args = some ds) (ho : H[id]? = some (loopO .ready ps.toArray asg bd envL)) (hl : ds.length = ps.length) (hR : setL envL (ps.zip ds) = envR)
    (hb : ARun C (QRound id K) [.code asg, .beginRound, .code bd] envR H []) (hbusy : ∀ j H', K j H' → H'[id]? = some (loopO .busy ps.toArray asg bd envL))
    (hk : ∀ H', K none H' → AOps C Q ops rest k (envPut env dst (.bool true)) (H'.set id (loopO .ready ps.toArray asg bd envL)) df)
    (hst : ∀ c H', K (some c) H' → AOps C Q ops rest k (envPut env dst (.bool false)) (H'.set id (loopO (.done c) ps.toArray asg bd envL)) df) :
    AOps C Q ops (⟨dst, .call ⟨.value x, args.toArray, tys⟩, ty, pos, aft, gd⟩ :: rest) k env H df := by
  subst hR
  refine ⟨fun i hi => ⟨fun L0 w0 μ0 H0 w μ a hs hv hd he b cs hrd => ?_⟩⟩
  obtain ⟨o, hoo⟩ : ∃ o : Oper, o = ⟨dst, .call ⟨.value x, args.toArray, tys⟩, ty, pos, aft, gd⟩ := ⟨_, rfl⟩
  have hod : o.dst = dst := by rw [hoo]
  rw [← hoo] at hi ⊢
  have hop : ops[i]? = some o := by have := drop_get hi; simpa using this
  have hw := gOk_ok (C := C) hv (o := o) (by rw [hoo]; exact hg)
  have ex := evO_ok hs hv hx
  have ea := evOs_ok hs hv ha
  simp only [VR] at ex
  obtain ⟨l, hml, ex⟩ := ex
  obtain ⟨_, r, k1, k2, k3, k4, k5, k6, k7⟩ := (hs.obj id _ l ho hml).spec rfl
  have hal : (args.map a.eval).length = ps.length := by rw [VRs_length ea]; exact hl
  have hy := run_yieldB (P := C.P) (args := (args.map a.eval).toArray) k1 (by rw [k2]; simpa using hal)
  rw [k2, k3, k4] at hy
  have hz : (ps.toArray.zip (args.map a.eval).toArray).foldl (fun tmps (t, a) => tmps.setIfInBounds t a) r.tmps = (ps.zip (args.map a.eval)).foldl (fun (t : Array Value) (p : Tmp × Value) => t.setIfInBounds p.1 p.2) r.tmps := by
    simp [List.zip_toArray]
  rw [hz] at hy
  have hrun : (o.semAt b.roundOf a.eval).run C.P w = .ok (.round l r.fn ((ps.zip (args.map a.eval)).foldl (fun (t : Array Value) (p : Tmp × Value) => t.setIfInBounds p.1 p.2) r.tmps) asg bd) w := by
    rw [Oper.semAt_eq _ _ _ (by rw [hoo]; intro c h; cases h), hoo]
    have h1 : (args.toArray.map a.eval) = (args.map a.eval).toArray := by simp
    simp only [execOp, resolve, h1, ex, Deferred.ofValue, Sem.run_bind, Sem.run_pure, Result.andThen_ok, invoke]
    have h2 : (#[] ++ (args.map a.eval).toArray : Array Value) = (args.map a.eval).toArray := by simp
    rw [h2]
    exact hy
  rw [List.length_cons, List.range'_succ]
  have hgop := stepGR_op (P := C.P) (b := b) (k := k) (cs := cs) (w := w) (rest := List.range' (i + 1) rest.length) hop hw
  let b2 : Frame := { (default : Frame) with fn := r.fn, kind := .normal, roundOf := some l }
  let a2 : Act := { tmps := (ps.zip (args.map a.eval)).foldl (fun (t : Array Value) (p : Tmp × Value) => t.setIfInBounds p.1 p.2) r.tmps, defers := [] }
  have henter : step C.P (lone (b.atR a (.inRegion ops (i :: List.range' (i + 1) rest.length) :: k)) cs w) =
      .next (lone (b2.atR a2 [.code asg, .beginRound, .code bd]) (b.atR a (.inRegion ops (i :: List.range' (i + 1) rest.length) :: k) :: cs) w) :=
    step_lone_go (by rw [hgop]; simp [stepG.apply, hrun, Frame.atR, Frame.round, b2, a2])
  obtain ⟨e, a', w', ⟨xx, env', H', μ', df', ⟨hdf, hK⟩, s1, hv1, hd1, hx1, e1⟩, harr⟩ := hb.out L0 w μ H w μ a2 hs (VRs_setL ea k5) rfl (Evo.refl _ _ _) b2 (b.atR a (.inRegion ops (i :: List.range' (i + 1) rest.length) :: k) :: cs) ⟨l, hml, rfl⟩
  have hml' := e1.map _ _ hml
  have fin : ∀ (jump : Option Code) (st' : LSt), K jump H' → (∀ r' : Loop, LStR .busy r' → LStR st' { r' with state := if jump.isNone then .ready else .done, pending := jump }) →
      AOps C Q ops rest k (envPut env dst (.bool jump.isNone)) (H'.set id (loopO st' ps.toArray asg bd envL)) df →
      ∃ w2, (Instr.endRound l jump).run C.P w' = .ok (.bool jump.isNone) w2 ∧ ∃ e a' w'', QRel C L0 w0 μ0 H0 Q e a' w'' ∧ ArrR C.P (lone ((b.atR a (.inRegion ops (i :: List.range' (i + 1) rest.length) :: k)).finish (.bool jump.isNone)) cs w2) b cs e a' w'' := by
    intro jump st' hj hst' hrest
    have hbz := hbusy _ _ hj
    obtain ⟨_, r', q1, q2, q3, q4, q5, q6⟩ := (s1.obj id _ l hbz hml').spec rfl
    obtain ⟨s2, e2⟩ := s1.loopSt (st' := st') (r' := { r' with state := if jump.isNone then .ready else .done, pending := jump }) hbz hml' q1 rfl rfl rfl rfl (hst' r' q6)
    refine ⟨_, run_endRoundB jump q1, ?_⟩
    have e12 := e1.trans e2
    have st := e12.step L0
    rw [Frame.finish_atR, hop, Option.bind_some, hod]
    obtain ⟨e, a', w', h3, h4⟩ := (hrest.out (i + 1) (drop_next hi)).out L0 w0 μ0 H0 _ μ' (a.put dst (.bool jump.isNone)) s2 (VRs_put (VRs.step st hv) (by simp only [VR])) (by rw [put_defers]; exact DfR.step st hd) (he.trans e12) b cs (hrd.step e12.map)
    exact ⟨e, a', w', h3, h4⟩
  cases xx with
  | norm =>
    have hx2 : e = .normal := hx1
    subst hx2
    obtain ⟨w2, r1, e2, a3, w3, h3, h4⟩ := fin none .ready hK (fun r' h => ⟨rfl, rfl⟩) (hk H' hK)
    exact ⟨e2, a3, w3, h3, .of_steps (.head henter (Steps.trans harr (.one (stepR_round_end rfl rfl r1)))) h4⟩
  | ret =>
    have hx2 : e = .ret := hx1
    subst hx2
    obtain ⟨kk, hst2⟩ := harr
    obtain ⟨w2, r1, e2, a3, w3, h3, h4⟩ := fin (some .ret) (.done .ret) hK (fun r' h => ⟨rfl, rfl⟩) (hst _ H' hK)
    exact ⟨e2, a3, w3, h3, .of_steps (.head henter (Steps.trans hst2 (.one (stepR_round_ret rfl rfl r1)))) h4⟩
  | exit j =>
    have hx2 : e = .exit j := hx1
    subst hx2
    obtain ⟨kk, hkk, hst2⟩ := harr
    obtain ⟨w2, r1, e2, a3, w3, h3, h4⟩ := fin (some (.exit j)) (.done (.exit j)) hK (fun r' h => ⟨rfl, rfl⟩) (hst _ H' hK)
    exact ⟨e2, a3, w3, h3, .of_steps (.head henter (Steps.trans hst2 (.one (stepR_round_exit rfl rfl hkk r1)))) h4⟩
  | pan d => exact hK.elim
theorem step_rangeF {P : Program} {b : Frame} {a : Act} {k : List Item} {cs : List Frame} {w : World} {g : Operand} {ps : Array Tmp} {assign body : Code} {l : Nat} {mark : List Deferred} {w₁ w₂ : World} {f : FuncId} {lb args : Array Value}
    (he : (Instr.enterLoop b.fn a.tmps ps assign body b.roundOf).run P w = .ok (l, mark) w₁) (hg : a.eval g = .func (.func f) #[] lb) (hf : (callFunc f (#[.func (.yield l) #[] #[]] ++ lb)).run P w₁ = .ok (.enter f args) w₂) :
    step P (lone (b.atR a (.code (.rangeFunc g ps assign body) :: k)) cs w) =
      .next (lone (Frame.enter P f args .normal) (b.atR { a with defers := mark ++ a.defers } (.inRangeFunc l :: k) :: cs) w₂) :=
  step_lone_go (by
    have hev := Frame.eval_atR b { a with defers := mark ++ a.defers } (.inRangeFunc l :: k)
    simp only [Frame.atR] at hev
    have hg' : ({ tmps := a.tmps, defers := mark ++ a.defers } : Act).eval g = .func (.func f) #[] lb := by rw [← hg]; cases g <;> rfl
    have hc : ∀ w, Sem.run P (resolve ({ tmps := a.tmps, defers := mark ++ a.defers } : Act).eval { callee := .value g, args := #[.const (.func (.yield l) #[] #[])], argTypes := #[] } 0) w = .ok { target := .fn (.func f) lb, args := #[.func (.yield l) #[] #[]] } w := by
      intro w
      simp only [resolve, hg']
      simp [Deferred.ofValue, Act.eval]
    have hi : (invoke (.fn (.func f) lb) #[.func (.yield l) #[] #[]]).run P w₁ = .ok (.enter f args) w₂ := by simpa [invoke] using hf
    simp [stepG, stepG.exec, Frame.atR, Sem.runT_eq, he, GStep.bare_after, stepG.apply, hev, Sem.run_bind, hc, hi, Result.andThen])
theorem step_endRangeF {P : Program} {b : Frame} {a : Act} {k : List Item} {cs : List Frame} {w w' : World} {l : Nat} {jump : Option Code} (h : (Instr.endLoop l).run P w = .ok jump w') :
    step P (lone (b.atR a (.endRangeFunc l :: k)) cs w) = .next (lone (b.atR a ((jump.map Item.code).toList ++ k)) cs w') :=
  step_lone_go (by simp [stepG, stepG.exec, Frame.atR, Sem.runT_eq, h, GStep.bare_after])
theorem ARun.rangeFn {g : Operand} {gf : FuncId} {caps : List D} {n : Nat} {R : Out → Heap → Prop} (hrn : Q.rd = none) (hx : evO C env g = some (.clos gf caps)) (hn : H.length = n)
    (hc : HC C gf (H ++ [defsO] ++ [loopO .ready ps asg bd env]) (.yld (n + 1) :: caps) R)
    (hk : ∀ d H2, R (.ret d) H2 → ∃ st, H2[n + 1]? = some (loopO st ps asg bd env) ∧ match st with
      | .ready => ARun C Q k env (H2.set (n + 1) none) (.col n :: df)
      | .done c => ARun C Q (.code c :: k) env (H2.set (n + 1) none) (.col n :: df)
      | .busy => False)
    (hp : ∀ d H2, R (.pan d) H2 → Q (.pan d) env H2 (.col n :: df)) : ARun C Q (.code (.rangeFunc g ps asg bd) :: k) env H df := by
  subst hn
  refine ⟨fun L0 w0 μ0 H0 w μ a hs hv hd he b cs hrd => ?_⟩
  have hro : b.roundOf = none := by rw [hrn] at hrd; exact hrd
  have ex := evO_ok hs hv hx
  simp only [VR] at ex
  obtain ⟨cvs, ex, ec⟩ := ex
  obtain ⟨s1, e1⟩ := hs.pushO (ob := .deferred (some [])) (o := ⟨[], 0, 0, true, some .defs⟩) (.of_spec rfl ⟨rfl, heap_alloc_new w _⟩)
  have st1 := e1.step L0
  have hlen1 : (μ ++ [w.heap.size]).length = H.length + 1 := by simp [hs.len]
  obtain ⟨rec, hrec⟩ : ∃ rec : Loop, rec = { state := .ready, pending := none, fn := b.fn, tmps := a.tmps, params := ps, assign := asg, body := bd, defers := w.heap.size } := ⟨_, rfl⟩
  obtain ⟨s2, e2⟩ := s1.pushO (ob := .loop rec) (o := ⟨[], 0, 0, true, some (.loop .ready ps asg bd env)⟩) (.of_spec rfl ⟨rfl, rec, heap_alloc_new _ _, by rw [hrec], by rw [hrec], by rw [hrec], by rw [hrec]; exact VRs.step st1 hv, by rw [hrec]; exact ⟨rfl, rfl⟩⟩)
  have e12 := e1.trans e2
  have st2 := e12.step L0
  have hsz : (w.alloc (.deferred (some []))).heap.size = w.heap.size + 1 := by simp
  rw [hsz] at s2 e2 e12 st2
  have hml : (μ ++ [w.heap.size] ++ [w.heap.size + 1])[H.length + 1]? = some (w.heap.size + 1) := by
    rw [List.getElem?_append_right (by rw [hlen1]; exact Nat.le_refl _), hlen1]; simp
  have hmc : (μ ++ [w.heap.size] ++ [w.heap.size + 1])[H.length]? = some w.heap.size := by
    rw [List.getElem?_append_left (by rw [hlen1]; omega), ← hs.len]; simp
  have hargs := VRs.step st2 ec
  have hyl : VR ((w.alloc (.deferred (some []))).alloc (.loop rec)) (forb L0 (μ ++ [w.heap.size] ++ [w.heap.size + 1]) (H ++ [defsO] ++ [loopO .ready ps asg bd env])) (μ ++ [w.heap.size] ++ [w.heap.size + 1]) (H ++ [defsO] ++ [loopO .ready ps asg bd env]) (.yld (H.length + 1)) (.func (.yield (w.heap.size + 1)) #[] #[]) := by
    simp only [VR]
    exact ⟨_, hml, rfl⟩
  have hcall := hc.2 L0 _ _ (.func (.yield (w.heap.size + 1)) #[] #[] :: cvs) s2 (by simp only [VRs]; exact ⟨_, _, rfl, hyl, hargs⟩)
  have henter := step_rangeF (P := C.P) (b := b) (a := a) (k := k) (cs := cs) (w := w) (g := g) (ps := ps) (assign := asg) (body := bd) (by rw [hro]; exact run_enterLoopB w b.fn a.tmps ps asg bd) ex (hc.1 _ _)
  rw [← hrec] at henter
  have harr : (#[.func (.yield (w.heap.size + 1)) #[] #[]] ++ cvs.toArray : Array Value) = (.func (.yield (w.heap.size + 1)) #[] #[] :: cvs).toArray := by simp
  rw [harr] at henter
  let a2 : Act := { a with defers := [{ target := .collected w.heap.size, args := #[] }] ++ a.defers }
  obtain ⟨e, w', fr, ⟨o, H2, μ2, hR, s3, hO, e3⟩, hcomes, hfn, hleave⟩ := hcall (b.atR a2 (.inRangeFunc (w.heap.size + 1) :: k) :: cs)
  have st3 := e3.step L0
  have e13 := e12.trans e3
  have hd2 : DfR w' (forb L0 μ2 H2) μ2 H2 (.col H.length :: df) a2.defers := by
    simp only [DfR]
    exact ⟨w.heap.size, a.defers, rfl, e3.map _ _ hmc, DfR.step (e13.step L0) hd⟩
  cases o with
  | ret d =>
    obtain ⟨v, rfl, hvd⟩ := hO
    obtain ⟨st, hst, hcont⟩ := hk d H2 hR
    have hback := step_leave_returned (c := b.atR a2 (.inRangeFunc (w.heap.size + 1) :: k)) (cs := cs) hleave
    have hfin : (b.atR a2 (.inRangeFunc (w.heap.size + 1) :: k)).finish v = b.atR a2 (.endRangeFunc (w.heap.size + 1) :: k) := by
      simp [Frame.finish, Frame.atR]
    rw [hfin] at hback
    have hml2 := e3.map _ _ hml
    obtain ⟨_, r, q1, q2, q3, q4, q5, q6⟩ := (s3.obj _ _ _ hst hml2).spec rfl
    have go : ∀ (jump : Option Code), r.pending = jump → r.state ≠ .busy → ARun C Q ((jump.map Item.code).toList ++ k) env (H2.set (H.length + 1) none) (.col H.length :: df) →
        ∃ e a' w', QRel C L0 w0 μ0 H0 Q e a' w' ∧ ArrR C.P (lone (b.atR a (.code (.rangeFunc g ps asg bd) :: k)) cs w) b cs e a' w' := by
      intro jump hj hnb hrun
      have hend : (Instr.endLoop (w.heap.size + 1)).run C.P w' = .ok jump (putB w' (w.heap.size + 1) (.loop { r with state := .exhausted })) := by rw [run_endLoopB q1 hnb, hj]
      obtain ⟨s4, e4⟩ := s3.putS (x' := none) (ob := .loop { r with state := .exhausted }) hst hml2 rfl (by simp) (fun o' h => by cases h)
      have e14 := e13.trans e4
      obtain ⟨e, a', w'', h3, h4⟩ := hrun.out L0 w0 μ0 H0 _ μ2 a2 s4 (VRs.step (e14.step L0) hv) (DfR.step (e4.step L0) hd2) (he.trans e14) b cs (hrd.step e14.map)
      exact ⟨e, a', w'', h3, .of_steps (.head henter (Steps.trans hcomes (.head hback (.one (step_endRangeF hend))))) h4⟩
    cases st with
    | ready => exact go none q6.2 (by rw [q6.1]; simp) hcont
    | done c => exact go (some c) q6.2 (by rw [q6.1]; simp) hcont
    | busy => exact hcont.elim
  | pan d =>
    obtain ⟨v, rfl, hvd⟩ := hO
    have hback := step_leave_panicked (c := b.atR a2 (.inRangeFunc (w.heap.size + 1) :: k)) (cs := cs) hleave
    rw [Frame.raise_atR] at hback
    exact ⟨.panic (pan1 v), a2, w', ⟨.pan d, env, H2, μ2, _, hp d H2 hR, s3, VRs.step (e13.step L0) hv, hd2, ⟨v, rfl, hvd⟩, he.trans e13⟩, _, .head henter (Steps.trans hcomes (.one hback))⟩
end
end Go.V
/- MAPS with numbers as keys that a call itself makes. -/
namespace Go.V
open Go.RowKit
abbrev mapO (es : List (D × D)) : Option AObj := some ⟨[], 0, 0, true, some (.map es)⟩
def findI (k : IntKind) (n : Int) : List (D × D) → Option (Option D)
  | [] => some none
  | (.int k' m, v) :: es => bif decide (k = k') then (bif n == m then some (some v) else findI k n es) else none
  | _ :: _ => none
theorem findNow_ok {w : World} {L : Nat → Prop} {μ : List Nat} {H : Heap} {k : IntKind} {n : Int} : ∀ {es : List (D × D)} {r : Option D} {l : List MapEntry} (i : Nat), findI k n es = some r → VRs w L μ H (es.map (·.1)) (l.map (·.key)) → VRs w L μ H (es.map (·.2)) (l.map (·.val)) →
    match r with
    | none => Instr.findNow (.int k) (.int k n) l i = some none
    | some d => ∃ j v, Instr.findNow (.int k) (.int k n) l i = some (some (j, v)) ∧ VR w L μ H d v
  | [], r, l, i, h, h1, _ => by
    simp only [findI] at h
    injection h with h
    subst h
    simp only [List.map_nil, VRs] at h1
    have : l = [] := List.map_eq_nil_iff.1 h1
    subst this
    rfl
  | (d, v) :: es, r, [], i, h, h1, _ => by simp [VRs] at h1
  | (d, v) :: es, r, e :: l, i, h, h1, h2 => by
    simp only [List.map_cons, VRs] at h1 h2
    obtain ⟨v1, us1, e1, k1, k2⟩ := h1
    obtain ⟨v2, us2, e2, m1, m2⟩ := h2
    injection e1 with e1 e1'
    injection e2 with e2 e2'
    subst e1; subst e2; subst e1'; subst e2'
    cases d <;> simp only [findI] at h <;> try (cases h; done)
    rename_i k' m
    simp only [VR] at k1
    by_cases hk : k = k'
    · subst hk
      simp only [decide_true, cond_true] at h
      by_cases hn : n = m
      · subst hn
        simp only [beq_self_eq_true, cond_true] at h
        injection h with h
        subst h
        refine ⟨i, e.val, ?_, m1⟩
        simp [Instr.findNow, Instr.sameNow, k1]
      have hb : (n == m) = false := by simpa using hn
      rw [hb] at h
      simp only [cond_false] at h
      have := findNow_ok (i + 1) h k2 m2
      have hs : Instr.findNow (.int k) (.int k n) (e :: l) i = Instr.findNow (.int k) (.int k n) l (i + 1) := by
        simp [Instr.findNow, Instr.sameNow, k1, hb]
      rw [hs]
      exact this
    simp [hk] at h
section
variable {C : Ctx} {env : List D} {H H' : Heap} {dst : Option Tmp} {ty : TypeId} {pos : String} {aft : Array Edge} {gd : Option (Nat × Bool)} {x y z : Operand} {d : D} {T kt et : TypeId} {te : TE}
theorem ZlT {i : Nat} {r : Option Operand} (hm : C.P.underlying T = some (.map kt et)) (hr : r = none ∨ ∃ k n, r = some (.const (.int k n))) [ap : AppL H (mapO []) i H'] : OpN C ⟨dst, .makeMap T r, ty, pos, aft, gd⟩ env H (.mapp i) H' := by
  rw [← ap.len, ← ap.eq]
  refine ⟨fun L0 w μ a hs hv => ?_⟩
  have hrun : (execOp a.eval ⟨dst, .makeMap T r, ty, pos, aft, gd⟩).run C.P w = .ok (.value (.map (some w.heap.size))) (w.alloc (.map #[] 0)) := by
    rcases hr with rfl | ⟨k, n, rfl⟩
    · simp only [execOp, Option.map_none, Instr.makeMap, Sem.run_bind, run_newObj_alloc, Result.andThen_ok, Sem.run_pure]
    simp only [execOp, Option.map_some, Act.eval, Instr.makeMap, Sem.run_bind, run_underlying hm, Result.andThen_ok, asInt, asIntOf, Sem.run_pure, run_newObj_alloc]
  unfold Oper.wp
  rw [hrun]
  obtain ⟨s1, e1⟩ := hs.pushO (ob := .map #[] 0) (o := ⟨[], 0, 0, true, some (.map [])⟩) (.of_spec rfl ⟨rfl, #[], 0, heap_alloc_new w _, by simp [VRs], by simp [VRs]⟩)
  refine ⟨_, .mapp H.length, _, _, ⟨rfl, rfl⟩, rfl, s1, ?_, e1⟩
  simp only [VR]
  exact ⟨w.heap.size, by rw [← hs.len]; simp, rfl⟩
theorem run_checkKey_int {P : Program} {w : World} {kt : TypeId} {k : IntKind} {n : Int} {b : Bool} (hk : P.underlying kt = some (.int k)) : (Instr.checkKey b 10000 kt (.int k n)).run P w = .ok () w := by
  rw [show (10000 : Nat) = 9999 + 1 from rfl]
  unfold Instr.checkKey
  simp only [Sem.run_bind, run_underlying hk, Result.andThen_ok]
  rfl
theorem run_findKeyV {P : Program} {w : World} {kt : TypeId} {d : TypeDesc} {k : Value} {l : List MapEntry} {a : Option (Nat × Value)} (hd : P.underlying kt = some d) (h : Instr.findNow d k l 0 = some a) : (Instr.findKey kt k l).run P w = .ok a w := by
  simp [Instr.findKey, run_underlying hd, Result.andThen, h]
theorem Zcp {i : Nat} {k : IntKind} {n : Int} {es : List (D × D)} {op : Op} (hop : op = .insert T x y z ∨ op = .mapUpdate T x y z) (hm : C.P.underlying T = some (.map kt et)) (hk : C.P.underlying kt = some (.int k)) (hx : evO C env x = some (.mapp i)) (hy : evO C env y = some (.int k n)) (hz : evO C env z = some d) (ho : H[i]? = some (mapO es)) (hf : findI k n es = some none)
    [pl : PutL H i (mapO (es ++ [(.int k n, d)])) H'] : OpN C ⟨dst, op, ty, pos, aft, gd⟩ env H (.tup []) H' := by
  rw [← pl.eq]
  refine ⟨fun L0 w μ a hs hv => ?_⟩
  have ex := evO_ok hs hv hx
  have ey := evO_ok hs hv hy
  have ez := evO_ok hs hv hz
  simp only [VR] at ex ey
  obtain ⟨b, hb, ex⟩ := ex
  obtain ⟨_, ea, clock, k1, k2, k3⟩ := (hs.obj i _ b ho hb).spec rfl
  have hfn := findNow_ok 0 hf k2 k3
  simp only at hfn
  have hrun : (execOp a.eval ⟨dst, op, ty, pos, aft, gd⟩).run C.P w = .ok .skip (putB w b (.map (ea.push { key := .int k n, val := a.eval z, born := clock }) (clock + 1))) := by
    have hmu : (Instr.mapUpdate T (.map (some b)) (.int k n) (a.eval z)).run C.P w = .ok () (putB w b (.map (ea.push { key := .int k n, val := a.eval z, born := clock }) (clock + 1))) := by
      have hg : (getObj b).run C.P w = .ok (.map ea clock) w := by simp [getObj, Sem.run, k1]
      have hset : ∀ o, (setObj b o).run C.P w = .ok () (putB w b o) := by intro o; simp [setObj, Sem.run, k1, putB]
      simp only [Instr.mapUpdate, Sem.run_bind, run_underlying hm, Result.andThen_ok, hg, run_checkKey_int hk, run_findKeyV hk hfn, hset]
    rcases hop with rfl | rfl <;> simp only [execOp, ex, ey, Sem.run_bind, hmu, Result.andThen_ok, Sem.run_pure]
  unfold Oper.wp
  rw [hrun]
  obtain ⟨s1, e1⟩ := hs.putS (x' := mapO (es ++ [(.int k n, d)])) (ob := .map (ea.push { key := .int k n, val := a.eval z, born := clock }) (clock + 1)) ho hb rfl (by simp) fun o' e => by
    injection e with e
    subst e
    refine ⟨rfl, rfl, rfl, .of_spec rfl ⟨rfl, _, _, putB_same (hs.block_lt ho hb), ?_, ?_⟩⟩
    · simp only [List.map_append, List.map_cons, List.map_nil, Array.toList_push]
      exact VRs_append k2 (by simp only [VRs]; exact ⟨_, _, rfl, by simp only [VR], rfl⟩)
    simp only [List.map_append, List.map_cons, List.map_nil, Array.toList_push]
    exact VRs_append k3 (by simp only [VRs]; exact ⟨_, _, rfl, ez, rfl⟩)
  exact ⟨undef, .tup [], _, μ, ⟨rfl, rfl⟩, rfl, s1, by simp only [VR]; exact ⟨[], rfl, by simp [VRs]⟩, e1⟩
def lookD (zero : D) : Option D → D
  | some d => .tup [d, .bool true]
  | none => .tup [zero, .bool false]
theorem ZjT {k : IntKind} {n : Int} {ks us : List D} {r : Option D} {dz : D} (hm : C.P.underlying T = some (.map kt et)) (hk : C.P.underlying kt = some (.int k)) (hte : C.ty et = some te) (hdz : constD te.zero = some dz) (hx : evO C env x = some (.mapv ks us)) (hy : evO C env y = some (.int k n)) (hl : ks.length = us.length) (hf : findI k n (ks.zip us) = some r) :
    OpQ C ⟨dst, .lookup T x y true, ty, pos, aft, gd⟩ env H (lookD dz r) :=
  OpQ.of_runS fun L0 w μ a hs he => by
    have ex := he _ _ hx
    have ey := he _ _ hy
    simp only [VR] at ex ey
    obtain ⟨b, ea, clock, ex, _, _, k1, k2, k3⟩ := ex
    have hfn := findNow_ok 0 hf (by rw [List.map_fst_zip (by omega)]; exact k2) (by rw [List.map_snd_zip (by omega)]; exact k3)
    have hg : (getObj b).run C.P w = .ok (.map ea clock) w := by simp [getObj, Sem.run, k1]
    cases r with
    | none =>
      simp only at hfn
      refine ⟨.tuple #[te.zero, .bool false], ?_, by simp only [lookD, VR, VRs]; exact ⟨[te.zero, .bool false], rfl, _, _, rfl, constD_ok hdz, _, _, rfl, rfl, rfl⟩⟩
      simp only [execOp, ex, ey, Instr.lookup, Sem.run_bind, run_underlying hm, Result.andThen_ok, hg, Sem.run_pure, run_checkKey_int hk, run_findKeyV hk hfn, (ty_tic hte).1.run_zero, if_true]
    | some d =>
      simp only at hfn
      obtain ⟨j, v, hfn, hvd⟩ := hfn
      refine ⟨.tuple #[v, .bool true], ?_, by simp only [lookD, VR, VRs]; exact ⟨[v, .bool true], rfl, _, _, rfl, VR.lift hvd, _, _, rfl, rfl, rfl⟩⟩
      simp only [execOp, ex, ey, Instr.lookup, Sem.run_bind, run_underlying hm, Result.andThen_ok, hg, Sem.run_pure, run_checkKey_int hk, run_findKeyV hk hfn, if_true]
end
end Go.V
