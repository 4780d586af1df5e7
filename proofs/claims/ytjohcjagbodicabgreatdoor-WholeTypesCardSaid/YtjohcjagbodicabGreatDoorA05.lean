/- A part of the proof: abstract values, rules for the steps of the program's form, and contracts of its functions, each proved; no condition. -/
import Derived.Test.YtjohcjagbodicabGreatDoorA04
import Derived.WalkSpells
set_option linter.unusedVariables false
set_option linter.unusedSimpArgs false
/- APPEND: the rules. -/
namespace Go.V
open Go.RowKit
theorem constD_cells {z : Value} {dz : D} {zs : List D} (h : constD z = some dz) (hc : cellsD dz = some zs) : z.cells.size = zs.length := by
  unfold constD at h
  split at h
  · rename_i cs
    split at h
    · rename_i ds hs
      injection h with h; subst h
      simp only [cellsD] at hc
      injection hc with hc; subst hc
      have : VRs (default : World) (fun _ => False) [] [] ds cs.toList := scalarsD_ok hs
      have := VRs_length this
      simp [Value.cells] at this ⊢
      omega
    cases h
  · split at h
    · injection h with h; subst h; simp [cellsD] at hc
    cases h
  have h1 : ∀ v : Value, scalarD v = some dz → v.cells.size = 1 ∧ ∃ d, cellsD dz = some [d] := by
    intro v hv
    unfold scalarD at hv
    split at hv <;> first | (injection hv with hv; subst hv; exact ⟨rfl, _, rfl⟩) | (cases hv)
  obtain ⟨k1, d, k2⟩ := h1 _ h
  rw [k2] at hc
  injection hc with hc
  subst hc
  exact k1
section
variable {C : Ctx} {env : List D} {H : Heap} {dst : Option Tmp} {ty : TypeId} {pos : String} {aft : Array Edge} {gd : Option (Nat × Bool)} {x y : Operand} {T e : TypeId} {descE : TypeDesc} {sizeE bytesE : Nat} {zeroE : Value}
theorem grownBy_refl (w : World) (r : Option Nat) : w.grownBy w r := ⟨rfl, rfl, rfl, Nat.le_refl _, fun _ _ _ => rfl⟩
theorem ZiS {id n m : Nat} {o : AObj} {dy dz : D} {zs news : List D} (ht : UN C T (.slice e)) (te : TIC C e descE sizeE bytesE zeroE) (h0 : 0 < sizeE) (hz : constD zeroE = some dz) (hzs : cellsD dz = some zs) (hzl : zs.length = sizeE)
    (hx : evO C env x = some (.row id n)) (ho : H[id]? = some (some o)) (hl : o.live = true) (hel : o.elem = e) (hes : o.esz = sizeE) (hy : evO C env y = some dy) (hs : srcD H dy = some (m, news)) (hnl : news.length = m * sizeE) (hb : (n + m) * bytesE ≤ 140737488355328) (hm : n + m ≤ maxLen) :
    OpN C ⟨dst, .call ⟨.builtin .append, #[x, y], #[T, T]⟩, ty, pos, aft, gd⟩ env H (.row H.length (n + m)) (H.set id none ++ [some ⟨o.cells ++ news, e, sizeE, true, none⟩]) := by
  refine ⟨fun L0 w μ a hsr hv => ?_⟩
  have ex := evO_ok hsr hv hx
  have ey := evO_ok hsr hv hy
  obtain ⟨ay, capy, ey', hmc, hnews⟩ := srcD_ok hsr hs ey
  simp only [VR] at ex
  obtain ⟨xo, hxo, h2⟩ := ex
  rw [ho] at hxo
  injection hxo with hxo
  obtain ⟨b, cap, cur, k1, ex, k3, k4, k5, k6, k7⟩ := h2 o hxo.symm
  rw [hel] at k5
  rw [hes] at k6 k7
  obtain ⟨i, i1, i2, i3, i4⟩ := te.infos
  obtain ⟨curO, co1, co2, co3⟩ := (hsr.obj id o b ho k1).row ((hsr.obj id o b ho k1).sp_none k5)
  rw [hel, k5] at co1
  injection co1 with co1
  injection co1 with co1
  subst co1
  have hrunop : ∀ (v' : Value) (w' : World), (Builtin.append_ #[T, T] ty #[a.eval x, a.eval y]).run C.P w = .ok v' w' → (execOp a.eval ⟨dst, .call ⟨.builtin .append, #[x, y], #[T, T]⟩, ty, pos, aft, gd⟩).run C.P w = .ok (.value v') w' := by
    intro v' w' h
    simp [execOp, resolve, invoke, builtin, h]
  have done : ∀ (w' : World) (b' cap' : Nat) (cur' : Array Value), (Builtin.append_ #[T, T] ty #[a.eval x, a.eval y]).run C.P w = .ok (.slice (some ⟨b', 0, none⟩) (n + m) cap') w' → w.grownBy w' (some b) → (b' = b ∨ b' = w.heap.size) → w'.heap[b']? = some (.cells cur' e (0, 0)) → n + m ≤ cap' → cap' ≤ maxLen → cur'.size = cap' * sizeE →
      (∀ (j : Nat) (d : D), (o.cells ++ news)[j]? = some d → ∃ v : Value, cur'[j]? = some v ∧ v.oneCell' = true ∧ VR w (forb L0 μ H) μ H d v) →
      Oper.wp C.P ⟨dst, .call ⟨.builtin .append, #[x, y], #[T, T]⟩, ty, pos, aft, gd⟩ a w (fun a' w' => ∃ v d H' μ', (d = .row H.length (n + m) ∧ H' = H.set id none ++ [some ⟨o.cells ++ news, e, sizeE, true, none⟩]) ∧ a' = a.put dst v ∧ SR C L0 w' μ' H' ∧ VR w' (forb L0 μ' H') μ' H' d v ∧ Evo w w' μ μ' H H')
        (fun e' a' w' => ∃ v d H' μ', e' = .panic (pan1 v) ∧ a' = a ∧ False ∧ SR C L0 w' μ' H' ∧ VR w' (forb L0 μ' H') μ' H' d v ∧ Evo w w' μ μ' H H') := by
    intro w' b' cap' cur' hrun hg hb' hc q1 q2 q3 hcs
    unfold Oper.wp
    rw [hrunop _ _ hrun]
    have hlen : (o.cells ++ news).length ≤ cur'.size := by
      rw [List.length_append, k7, hnl, ← Nat.add_mul, q3]; exact Nat.mul_le_mul_right _ q1
    obtain ⟨s1, s2⟩ := hsr.regrow (o' := ⟨o.cells ++ news, e, sizeE, true, none⟩) ho k1 hl hg hb' hc hlen hcs
    refine ⟨_, _, _, _, ⟨rfl, rfl⟩, rfl, s1, ?_, s2⟩
    simp only [VR]
    refine ⟨some ⟨o.cells ++ news, e, sizeE, true, none⟩, by rw [List.getElem?_append_right (by simp)]; simp, fun o' e' => ?_⟩
    injection e' with e'
    subst e'
    refine ⟨b', cap', cur', by rw [← hsr.len]; simp, rfl, q1, q2, hc, q3, by rw [List.length_append, k7, hnl, Nat.add_mul]⟩
  by_cases hm0 : m = 0
  · subst hm0
    have hnil : news = [] := List.eq_nil_of_length_eq_zero (by simpa using hnl)
    subst hnil
    refine done w b cap cur ?_ (grownBy_refl _ _) (.inl rfl) k5 (by omega) k4 k6 ?_
    · rw [ex, ey']
      exact run_append_zero ht i1 k3
    intro j d hd
    rw [List.append_nil] at hd
    exact co3 j d hd
  have hne : news ≠ [] := by
    rintro rfl
    simp only [List.length_nil] at hnl
    rcases Nat.mul_eq_zero.1 hnl.symm with h | h <;> omega
  obtain ⟨ad, rfl, vs, v1, v2, v3, v4⟩ := hnews hne
  have htk : (cur.toList.take (n * sizeE)).length = n * sizeE := by
    rw [List.length_take, Array.length_toList, k6]
    exact Nat.min_eq_left (Nat.mul_le_mul_right _ k3)
  have hown : w.ownsRow 0 e sizeE (.slice (some ⟨b, 0, none⟩) n cap) n (cur.toList.take (n * sizeE)) := ⟨htk, .inr ⟨b, cap, cur, rfl, Nat.zero_le _, k5, k3, k4, k6, rfl⟩⟩
  obtain ⟨v', w', hrun, r1, r2, r3, r4⟩ := run_append_own_at (P := C.P) w 0 T ty e i zeroE sizeE bytesE ht i1 i4 i2 i3 ((constD_cells hz hzs).trans hzl) h0 _ n _ hown ad m capy vs (by rw [v1, hnl]) v3 v4 hm hb (Nat.zero_le _)
  rcases r1.2 with ⟨_, hz0⟩ | ⟨g, cap', cur', rfl, _, g2, g3, g4, g5, g6⟩
  · omega
  refine done w' g cap' cur' (by rw [ex, ey']; exact hrun) r2 (by
    rcases r4 with h | h
    · left; simpa [Value.ownBlock] using h
    right; simpa [Value.ownBlock] using h) g2 g3 g4 g5 fun j d hd => ?_
  have hj : j < (n + m) * sizeE := by
    have := (List.getElem?_eq_some_iff.1 hd).1
    rw [List.length_append, k7, hnl, ← Nat.add_mul] at this
    exact this
  have hget : cur'[j]? = (cur.toList.take (n * sizeE) ++ vs)[j]? := by
    rw [← g6, List.getElem?_take, if_pos hj, Array.getElem?_toList]
  by_cases hj2 : j < n * sizeE
  · rw [List.getElem?_append_left (by rw [k7]; exact hj2)] at hd
    rw [hget, List.getElem?_append_left (by rw [htk]; exact hj2), List.getElem?_take, if_pos hj2, Array.getElem?_toList]
    exact co3 j d hd
  rw [List.getElem?_append_right (by rw [k7]; omega), k7] at hd
  rw [hget, List.getElem?_append_right (by rw [htk]; omega), htk]
  obtain ⟨u, u1, u2⟩ := VRs_get v2 hd
  exact ⟨u, u1, v4 u (List.mem_of_getElem? u1), u2⟩
theorem Zg3 {m : Nat} {dy dz : D} {zs news : List D} (ht : UN C T (.slice e)) (te : TIC C e descE sizeE bytesE zeroE) (h0 : 0 < sizeE) (hz : constD zeroE = some dz) (hzs : cellsD dz = some zs) (hzl : zs.length = sizeE)
    (hx : evO C env x = some .nilsl) (hy : evO C env y = some dy) (hs : srcD H dy = some (m, news)) (hnl : news.length = m * sizeE) (hm0 : 0 < m) (hb : m * bytesE ≤ 140737488355328) (hm : m ≤ maxLen) :
    OpN C ⟨dst, .call ⟨.builtin .append, #[x, y], #[T, T]⟩, ty, pos, aft, gd⟩ env H (.row H.length m) (H ++ [some ⟨news, e, sizeE, true, none⟩]) := by
  refine ⟨fun L0 w μ a hsr hv => ?_⟩
  have ex := evO_ok hsr hv hx
  have ey := evO_ok hsr hv hy
  obtain ⟨ay, capy, ey', hmc, hnews⟩ := srcD_ok hsr hs ey
  simp only [VR] at ex
  obtain ⟨i, i1, i2, i3, i4⟩ := te.infos
  have hne : news ≠ [] := by
    rintro rfl
    simp only [List.length_nil] at hnl
    rcases Nat.mul_eq_zero.1 hnl.symm with h | h <;> omega
  obtain ⟨ad, rfl, vs, v1, v2, v3, v4⟩ := hnews hne
  obtain ⟨v', w', hrun, r1, r2, r3, r4⟩ := run_append_own_at (P := C.P) w w.heap.size T ty e i zeroE sizeE bytesE ht i1 i4 i2 i3 ((constD_cells hz hzs).trans hzl) h0 _ 0 [] (World.ownsRow_nil w _ e sizeE) ad m capy vs (by rw [v1, hnl]) v3 v4 (by omega) (by rw [Nat.zero_add]; exact hb) (Nat.le_refl _)
  simp only [Nat.zero_add, List.nil_append] at r1
  rcases r1.2 with ⟨_, hz0⟩ | ⟨g, cap', cur', rfl, hgg, g2, g3, g4, g5, g6⟩
  · omega
  have hgs : g = w.heap.size := by
    rcases r4 with h | h
    · simp [Value.ownBlock] at h
    simpa [Value.ownBlock] using h
  subst hgs
  have hrunop : (execOp a.eval ⟨dst, .call ⟨.builtin .append, #[x, y], #[T, T]⟩, ty, pos, aft, gd⟩).run C.P w = .ok (.value (.slice (some ⟨w.heap.size, 0, none⟩) m cap')) w' := by
    have hrun' := hrun
    simp [execOp, resolve, invoke, builtin, ex, ey', hrun']
  unfold Oper.wp
  rw [hrunop]
  obtain ⟨s1, s2⟩ := hsr.grow (o' := ⟨news, e, sizeE, true, none⟩) (by simpa [Value.ownBlock] using r2) g2 (by show news.length ≤ _; rw [hnl, g5]; exact Nat.mul_le_mul_right _ g3) fun j d hd => by
    have hj : j < m * sizeE := by rw [← hnl]; exact (List.getElem?_eq_some_iff.1 hd).1
    have hget : cur'[j]? = vs[j]? := by rw [← g6, List.getElem?_take, if_pos hj, Array.getElem?_toList]
    obtain ⟨u, u1, u2⟩ := VRs_get v2 hd
    exact ⟨u, by rw [hget]; exact u1, v4 u (List.mem_of_getElem? u1), u2⟩
  refine ⟨_, _, _, _, ⟨rfl, rfl⟩, rfl, s1, ?_, s2⟩
  simp only [VR]
  refine ⟨some ⟨news, e, sizeE, true, none⟩, by rw [List.getElem?_append_right (Nat.le_refl _)]; simp, fun o' e' => ?_⟩
  injection e' with e'
  subst e'
  exact ⟨w.heap.size, cap', cur', by rw [← hsr.len]; simp, rfl, g3, g4, g2, g5, hnl⟩
variable {te tee : TE} {H' : Heap}
theorem Zf6 {id n m i S b : Nat} {zv : Value} {o : AObj} {dy dz : D} {zs news cs : List D} {H1 : Heap} [pl : PutL H id none H1] [ap : AppL H1 (some ⟨cs, e, tee.size, true, none⟩) i H'] (ht : C.ty T = some ⟨.slice e, S, b, zv⟩) (hee : C.ty e = some tee) (h0 : 0 < tee.size) (hz : constD tee.zero = some dz) (hzs : cellsD dz = some zs) (hzl : zs.length = tee.size)
    (hx : evO C env x = some (.row id n)) (ho : H[id]? = some (some o)) (hl : o.live = true) (hel : o.elem = e) (hes : o.esz = tee.size) (hy : evO C env y = some dy) (hs : srcD H dy = some (m, news)) (hnl : news.length = m * tee.size) (hb : (n + m) * tee.bytes ≤ 140737488355328) (hm : n + m ≤ maxLen) (hcs : o.cells ++ news = cs) :
    OpN C ⟨dst, .call ⟨.builtin .append, #[x, y], #[T, T]⟩, ty, pos, aft, gd⟩ env H (.row i (n + m)) H' := by
  subst hcs
  have h := ZiS (dst := dst) (ty := ty) (pos := pos) (aft := aft) (gd := gd) (ty_slice ht) (ty_tic hee).1 h0 hz hzs hzl hx ho hl hel hes hy hs hnl hb hm
  have hlen := ap.len
  have heq := ap.eq
  rw [← pl.eq] at hlen heq
  rw [List.length_set] at hlen
  unfold OpN
  rw [← hlen, ← heq]
  exact h
end
end Go.V
/- MORE OPERATIONS: nil slices, parts of rows, copy. -/
namespace Go.V
open Go.RowKit
section
variable {C : Ctx} {Q : Post} {ops : Array Oper} {rest : List Oper} {k : List Item} {env : List D} {H H' : Heap} {df : List ADef}
variable {dst : Option Tmp} {ty : TypeId} {pos : String} {aft : Array Edge} {gd : Option (Nat × Bool)} {d : D} {x y z : Operand} {T e : TypeId} {desc descE : TypeDesc} {size bytes sizeE bytesE : Nat} {zero zeroE : Value} {te tee : TE}
theorem OpH.of_val {o : Oper} {K : D → Prop} (h : ∀ (L0 : Nat → Prop) (w : World) (μ : List Nat) (a : Act), SR C L0 w μ H → (∀ x d, evO C env x = some d → VR w (forb L0 μ H) μ H d (a.eval x)) → ∃ v d, (execOp a.eval o).run C.P w = .ok (.value v) w ∧ VR w (forb L0 μ H) μ H d v ∧ K d) :
    OpH C o env H (fun d' H' => K d' ∧ H' = H) (fun _ _ => False) := by
  refine ⟨fun L0 w μ a hs hv => ?_⟩
  obtain ⟨v, d, h1, h2, h3⟩ := h L0 w μ a hs (fun x d hx => evO_ok hs hv hx)
  unfold Oper.wp
  rw [h1]
  exact ⟨v, d, H, μ, ⟨h3, rfl⟩, rfl, hs, h2, Evo.refl _ _ _⟩
theorem run_eqGuard_slice {P : Program} {w : World} {op : BinOp} {t : TypeId} {a a' : Option Addr} {n c n' c' : Nat} : (eqGuard op t x y (.slice a n c) (.slice a' n' c')).run P w = .ok () w := by
  unfold eqGuard
  simp only [Sem.run_bind]
  split <;> simp
theorem ZmI {n : Nat} {cs : List D} {yt : TypeId} (ht : UN C T (.slice e)) (hx : evO C env x = some d) (hd : asSl d = some (n, cs)) (hy : evO C env y = some .nilsl) :
    OpH C ⟨dst, .binOp .eql T x y yt, ty, pos, aft, gd⟩ env H (fun d' H' => (∃ b : Bool, d' = .bool b ∧ (b = true → cs = [])) ∧ H' = H) (fun _ _ => False) :=
  OpH.of_val fun L0 w μ a hs he => by
    have ex := he _ _ hx
    have ey := he _ _ hy
    obtain ⟨ad, cap, ex, h1, h2, h3⟩ := asSl_ok hd ex
    simp only [VR] at ey
    refine ⟨.bool ad.isNone, .bool ad.isNone, ?_, by simp only [VR], _, rfl, fun hb => ?_⟩
    · simp only [execOp, ex, ey, Sem.run_bind, run_eqGuard_slice, Result.andThen_ok]
      have := Lib.run_eql_slice_nil (P := C.P) w T e ad n cap 0 0 ht
      rw [this]
      rfl
    cases hcs : cs with
    | nil => rfl
    | cons c r =>
      obtain ⟨q, rfl, _⟩ := h3 (by rw [hcs]; simp)
      cases hb
theorem ZlN {n S b0 : Nat} {zv : Value} {cs : List D} {yt : TypeId} {E : Bool → List D} [hp : ∀ b, Put env dst (.bool b) (E b)] (hg : gOk ops.toList env gd = some true) (hx : evO C env x = some d) (hd : asSl d = some (n, cs)) (hy : evO C env y = some .nilsl) (ht : C.ty T = some ⟨.slice e, S, b0, zv⟩)
    (hk : ∀ b : Bool, (b = true → cs = []) → AOps C Q ops rest k (E b) H df) : AOps C Q ops (⟨dst, .binOp .eql T x y yt, ty, pos, aft, gd⟩ :: rest) k env H df :=
  AOps.opH hg (ZmI (ty_slice ht) hx hd hy) (fun d' H' ⟨⟨b, h1, h2⟩, h3⟩ => by subst h1; subst h3; rw [(hp b).eq]; exact hk b h2) (fun _ _ h => h.elim)
/-! ### Parts of rows -/
theorem Zmm {id off n : Nat} {ik : IntKind} {i : Int} (ht : UN C T (.slice e)) (te : TIC C e descE sizeE bytesE zeroE) (hx : evO C env x = some (.sub id off n)) (hy : evO C env y = some (.int ik i)) (h0 : 0 ≤ i) (h1 : i < n) :
    OpQ C ⟨dst, .indexAddr T x y, ty, pos, aft, gd⟩ env H (.ptr id (off + i.toNat * sizeE)) :=
  OpQ.of_run fun L w μ a he => by
    have ex := he _ _ hx
    have ey := he _ _ hy
    simp only [VR] at ex ey
    obtain ⟨b, cap, hb, ex, _⟩ := ex
    refine ⟨.pointer (some ((⟨b, off, none⟩ : Addr).add (i.toNat * sizeE))), ?_, by simp only [VR]; exact ⟨b, hb, by rw [add_lit']⟩⟩
    have := run_indexSl (P := C.P) (w := w) (ad := ⟨b, off, none⟩) (n := n) (cap := cap) (k := ik) ht te h0 h1
    simp only [execOp, ex, ey, Sem.run_bind, this, Result.andThen_ok, Sem.run_pure]
theorem Zmn {id off n : Nat} (ht : UN C T (.slice e)) (hx : evO C env x = some (.sub id off n)) : OpQ C ⟨dst, .call ⟨.builtin .len, #[x], #[T]⟩, ty, pos, aft, gd⟩ env H (.int .i64 n) :=
  OpQ.of_run fun L w μ a he => by
    have ex := he _ _ hx
    simp only [VR] at ex
    obtain ⟨b, cap, hb, ex, _⟩ := ex
    exact ⟨.int .i64 n, by simp [execOp, resolve, ex, invoke, builtin, Builtin.len_, run_underlying ht, goInt], by simp only [VR]⟩
theorem Zco {id off n S b j : Nat} {ik : IntKind} {i : Int} {zv : Value} (hx : evO C env x = some (.sub id off n)) (hy : evO C env y = some (.int ik i)) (ht : C.ty T = some ⟨.slice e, S, b, zv⟩) (hee : C.ty e = some tee) (h0 : 0 ≤ i) (h1 : i < n) (hj : off + i.toNat * tee.size = j) : OpQ C ⟨dst, .indexAddr T x y, ty, pos, aft, gd⟩ env H (.ptr id j) := by
  subst hj; exact Zmm (ty_slice ht) (ty_tic hee).1 hx hy h0 h1
theorem ZkI {id off n S b : Nat} {zv : Value} (hx : evO C env x = some (.sub id off n)) (ht : C.ty T = some ⟨.slice e, S, b, zv⟩) : OpQ C ⟨dst, .call ⟨.builtin .len, #[x], #[T]⟩, ty, pos, aft, gd⟩ env H (.int .i64 n) := Zmn (ty_slice ht) hx
theorem Zle {id n lo hi : Nat} {o : AObj} {x1 x2 : Operand} {k1 k2 : IntKind} (ht : UN C T (.slice e)) (hee : TIC C e descE sizeE bytesE zeroE) (hx : evO C env x = some (.row id n)) (ho : H[id]? = some (some o)) (hlo : evO C env x1 = some (.int k1 lo)) (hhi : evO C env x2 = some (.int k2 hi)) (hl : lo < hi) (hh : hi ≤ n) :
    OpQ C ⟨dst, .slice T x (some x1) (some x2) none, ty, pos, aft, gd⟩ env H (.sub id (lo * sizeE) (hi - lo)) :=
  OpQ.of_run fun L w μ a he => by
    have ex := he _ _ hx
    have e1 := he _ _ hlo
    have e2 := he _ _ hhi
    simp only [VR] at ex e1 e2
    obtain ⟨x', hx', h2⟩ := ex
    rw [ho] at hx'
    injection hx' with hx'
    obtain ⟨b, cap, cur, k1', ex, k3, k4, _⟩ := h2 o hx'.symm
    have hte : C.P.elem T = e := by unfold Program.elem; rw [show C.P.underlying T = some (.slice e) from ht]
    have ht' : C.P.underlying T = some (.slice (C.P.elem T)) := by rw [hte]; exact ht
    have hsz : ∀ w, (sizeOf (C.P.elem T)).run C.P w = .ok sizeE w := fun w => by rw [hte]; exact hee.run_size w
    have key : (Instr.sliceAt T (.slice (some ⟨b, 0, none⟩) n cap) (some (.int k1 lo)) (some (.int k2 hi)) none).run C.P w = .ok (sliced (some ⟨b, 0, none⟩) lo hi cap sizeE) w := by
      rw [run_sliceAt_slice _ _ _ _ _ _ ht', run_slice_lh _ _ _ _ _ ht' k1 k2 (lo : Int) (hi : Int) (by omega) (by omega) (by omega), hsz]
      simp
    refine ⟨sliced (some ⟨b, 0, none⟩) lo hi cap sizeE, ?_, ?_⟩
    · simp only [execOp, ex, e1, e2, Sem.run_bind, Option.map_none, Option.map_some, key, Result.andThen_ok, Sem.run_pure]
    simp only [VR, sliced]
    refine ⟨b, cap - lo, k1', ?_, by omega, by omega⟩
    rw [if_neg (by omega)]
    simp only [Option.map_some, add_lit]
theorem Zlf {id n lo hi m off S b : Nat} {o : AObj} {x1 x2 : Operand} {k1 k2 : IntKind} {zv : Value} (hx : evO C env x = some (.row id n)) (ho : H[id]? = some (some o)) (ht : C.ty T = some ⟨.slice e, S, b, zv⟩) (hee : C.ty e = some tee) (hlo : evO C env x1 = some (.int k1 lo)) (hhi : evO C env x2 = some (.int k2 hi)) (hl : lo < hi) (hh : hi ≤ n) (hm : hi - lo = m) (hoff : lo * tee.size = off) :
    OpQ C ⟨dst, .slice T x (some x1) (some x2) none, ty, pos, aft, gd⟩ env H (.sub id off m) := by
  subst hm; subst hoff; exact Zle (ty_slice ht) (ty_tic hee).1 hx ho hlo hhi hl hh
/-! ### copy -/
theorem o_copy {id n m : Nat} {o : AObj} {dy : D} {cs : List D} {Ts : TypeId} (ht : UN C T (.slice e)) (te : TIC C e descE 1 bytesE zeroE) (hx : evO C env x = some (.row id n)) (ho : H[id]? = some (some o)) (hl : o.live = true) (hes : o.esz = 1) (hy : evO C env y = some dy) (hs : srcD H dy = some (m, cs)) (hcl : cs.length = m) (hm : m ≤ n) :
    OpN C ⟨dst, .call ⟨.builtin .copy, #[x, y], #[T, Ts]⟩, ty, pos, aft, gd⟩ env H (.int .i64 m) (H.set id (some { o with cells := cs ++ o.cells.drop m })) := by
  refine ⟨fun L0 w μ a hsr hv => ?_⟩
  have ex := evO_ok hsr hv hx
  have ey := evO_ok hsr hv hy
  obtain ⟨ay, capy, ey', hmc, hnews⟩ := srcD_ok hsr hs ey
  simp only [VR] at ex
  obtain ⟨xo, hxo, h2⟩ := ex
  rw [ho] at hxo
  injection hxo with hxo
  obtain ⟨b, cap, cur, k1, ex, k3, k4, k5, k6, k7⟩ := h2 o hxo.symm
  rw [hes] at k6 k7
  rw [Nat.mul_one] at k6 k7
  obtain ⟨curO, co1, co2, co3⟩ := (hsr.obj id o b ho k1).row ((hsr.obj id o b ho k1).sp_none k5)
  rw [k5] at co1
  injection co1 with co1
  injection co1 with co1
  subst co1
  obtain ⟨i, i1, i2, i3, i4⟩ := te.infos
  have hsz : (C.P.info? e).map (·.size) = some 1 := by rw [i1]; simp [i2]
  by_cases hm0 : m = 0
  · subst hm0
    have hnil : cs = [] := List.eq_nil_of_length_eq_zero hcl
    subst hnil
    have hrun := run_copy_none (P := C.P) w T Ts ty e (some ⟨b, 0, none⟩) ay n cap 0 capy ht hsz (Nat.zero_min _)
    have hrunop : (execOp a.eval ⟨dst, .call ⟨.builtin .copy, #[x, y], #[T, Ts]⟩, ty, pos, aft, gd⟩).run C.P w = .ok (.value (.int .i64 0)) w := by
      simp [execOp, resolve, invoke, builtin, ex, ey', hrun, goInt]
    unfold Oper.wp
    rw [hrunop]
    have hsame : H.set id (some { o with cells := [] ++ o.cells.drop 0 }) = H := by
      simp only [List.nil_append, List.drop_zero]
      apply List.ext_getElem?
      intro j
      rw [List.getElem?_set]
      by_cases h : id = j
      · subst h
        rw [if_pos rfl, if_pos (List.getElem?_eq_some_iff.1 ho).1, ho]
      rw [if_neg h]
    rw [hsame]
    exact ⟨_, _, H, μ, ⟨rfl, rfl⟩, rfl, hsr, by simp [VR], Evo.refl _ _ _⟩
  have hne : cs ≠ [] := by
    rintro rfl
    simp at hcl
    omega
  obtain ⟨ad, rfl, vs, v1, v2, v3, v4⟩ := hnews hne
  have hlen : vs.length = Nat.min m n := by rw [v1, hcl]; exact (Nat.min_eq_left hm).symm
  have hrun := run_copy_row (P := C.P) w T Ts ty e b 0 n cap ad m capy cur o.elem vs ht hsz k5 hlen v3 (by omega) v4
  have hrunop : (execOp a.eval ⟨dst, .call ⟨.builtin .copy, #[x, y], #[T, Ts]⟩, ty, pos, aft, gd⟩).run C.P w = .ok (.value (.int .i64 m)) (w.setRow b (vs ++ cur.toList.drop m).toArray) := by
    have hvm : vs.length = m := by rw [v1, hcl]
    simp only [List.take_zero, List.nil_append, Nat.zero_add, hvm] at hrun
    simp [execOp, resolve, invoke, builtin, ex, ey', hrun, goInt]
  unfold Oper.wp
  rw [hrunop]
  obtain ⟨s1, s2⟩ := hsr.write (o' := { o with cells := cs ++ o.cells.drop m }) (cur' := (vs ++ cur.toList.drop m).toArray) ho k1 hl k5 rfl rfl hl rfl
    (by simp only [List.length_append, List.length_drop]; omega) (by simp only [List.size_toArray, List.length_append, List.length_drop, Array.length_toList, v1]; omega) (fun j d' hd' => by
      simp only [List.getElem?_toArray]
      by_cases hj : j < m
      · rw [List.getElem?_append_left (by omega)] at hd'
        rw [List.getElem?_append_left (by omega)]
        obtain ⟨u, u1, u2⟩ := VRs_get v2 hd'
        exact ⟨u, u1, v4 u (List.mem_of_getElem? u1), u2⟩
      rw [List.getElem?_append_right (by omega), List.getElem?_drop] at hd'
      rw [List.getElem?_append_right (by omega), List.getElem?_drop]
      have e1 : m + (j - cs.length) = j := by omega
      have e2 : m + (j - vs.length) = j := by omega
      rw [e1] at hd'
      rw [e2]
      obtain ⟨u, u1, u2, u3⟩ := co3 j d' hd'
      exact ⟨u, by simpa using u1, u2, u3⟩)
  exact ⟨_, _, _, μ, ⟨rfl, rfl⟩, rfl, s1, by simp [VR], s2⟩
theorem n_copy {id n m S b bE : Nat} {kE : TK} {zv zE : Value} {o : AObj} {dy : D} {cs cs' : List D} {Ts : TypeId} [pl : PutL H id (some { o with cells := cs' }) H'] (hx : evO C env x = some (.row id n)) (ht : C.ty T = some ⟨.slice e, S, b, zv⟩) (hee : C.ty e = some ⟨kE, 1, bE, zE⟩) (ho : H[id]? = some (some o)) (hl : o.live = true) (hes : o.esz = 1) (hy : evO C env y = some dy) (hs : srcD H dy = some (m, cs)) (hcl : cs.length = m) (hm : m ≤ n) (hcs : cs ++ o.cells.drop m = cs') :
    OpN C ⟨dst, .call ⟨.builtin .copy, #[x, y], #[T, Ts]⟩, ty, pos, aft, gd⟩ env H (.int .i64 m) H' := by
  subst hcs
  have h := o_copy (dst := dst) (ty := ty) (pos := pos) (aft := aft) (gd := gd) (Ts := Ts) (ty_slice ht) (ty_tic hee).1 hx ho hl hes hy hs hcl hm
  rw [pl.eq] at h
  exact h
end
end Go.V
namespace Go.V
theorem sub_nat {off i : Nat} {x : Int} (h : x = (i : Int)) : off + x.toNat * 1 = off + i := by subst h; simp
theorem sl_nil {xs : List Nat} {k : IntKind} (h : nts k xs = []) : xs = [] := List.map_eq_nil_iff.1 h
end Go.V
/- NATURAL NUMBERS AS ELEMENTS to the base 2^32: plain Lean. -/
namespace Go.V
def B : Nat := 4294967296
theorem B_eq : B = 4294967296 := rfl
theorem B_gt : 1 < B := by decide
theorem B_pos : 0 < B := by decide
def val : List Nat → Nat
  | [] => 0
  | x :: xs => x + B * val xs
def lim (n : Nat) : List Nat := if h : n = 0 then [] else n % B :: lim (n / B)
termination_by n
decreasing_by exact Nat.div_lt_self (Nat.pos_of_ne_zero h) (by decide)
theorem lim_zero : lim 0 = [] := by rw [lim]; rfl
theorem lim_pos {n : Nat} (h : n ≠ 0) : lim n = n % B :: lim (n / B) := by rw [lim, dif_neg h]
theorem val_lim (n : Nat) : val (lim n) = n := by
  induction n using Nat.strongRecOn with
  | _ n ih =>
    by_cases h : n = 0
    · subst h; rw [lim_zero]; rfl
    rw [lim_pos h, val, ih _ (Nat.div_lt_self (Nat.pos_of_ne_zero h) B_gt)]
    exact Nat.mod_add_div n B
theorem U32.nil : U32 [] := fun _ h => by cases h
theorem U32.cons {x : Nat} {xs : List Nat} (h : x < B) (hs : U32 xs) : U32 (x :: xs) := fun y hy => by
  rcases List.mem_cons.1 hy with rfl | hy
  · exact h
  exact hs y hy
theorem U32.tail {x : Nat} {xs : List Nat} (h : U32 (x :: xs)) : U32 xs := fun y hy => h y (List.mem_cons_of_mem _ hy)
theorem U32.head {x : Nat} {xs : List Nat} (h : U32 (x :: xs)) : x < B := h x (List.mem_cons_self ..)
theorem U32_lim (n : Nat) : U32 (lim n) := by
  induction n using Nat.strongRecOn with
  | _ n ih =>
    by_cases h : n = 0
    · subst h; rw [lim_zero]; exact U32.nil
    rw [lim_pos h]
    exact U32.cons (Nat.mod_lt _ B_pos) (ih _ (Nat.div_lt_self (Nat.pos_of_ne_zero h) B_gt))
theorem val_append (xs ys : List Nat) : val (xs ++ ys) = val xs + B ^ xs.length * val ys := by
  induction xs with
  | nil => simp [val]
  | cons x xs ih =>
    simp only [List.cons_append, val, ih, List.length_cons, Nat.pow_succ]
    rw [Nat.mul_add, Nat.add_assoc, Nat.mul_comm (B ^ xs.length) B, Nat.mul_assoc]
theorem val_lt {xs : List Nat} (h : U32 xs) : val xs < B ^ xs.length := by
  induction xs with
  | nil => simp [val]
  | cons x xs ih =>
    have h1 := h.head
    have h2 := ih h.tail
    simp only [val, List.length_cons, Nat.pow_succ]
    have : B * (val xs + 1) ≤ B * B ^ xs.length := Nat.mul_le_mul_left _ h2
    rw [Nat.mul_comm (B ^ xs.length) B]
    rw [Nat.mul_add] at this
    omega
def Canon (xs : List Nat) : Prop := xs = [] ∨ xs.getD (xs.length - 1) 0 ≠ 0
theorem Canon.tail {x : Nat} {xs : List Nat} (h : Canon (x :: xs)) : Canon xs := by
  rcases h with h | h
  · cases h
  cases xs with
  | nil => exact .inl rfl
  | cons y ys => right; simpa [List.getD_eq_getElem?_getD] using h
theorem Canon.val_ne {xs : List Nat} (h : Canon xs) (hne : xs ≠ []) : val xs ≠ 0 := by
  induction xs with
  | nil => exact (hne rfl).elim
  | cons x xs ih =>
    cases xs with
    | nil =>
      rcases h with h | h
      · cases h
      simp [List.getD_eq_getElem?_getD] at h; simpa [val] using h
    | cons y ys =>
      have := ih h.tail (by simp)
      simp only [val] at this ⊢
      intro e
      have h1 : B * (y + B * val ys) = 0 := by omega
      rcases Nat.mul_eq_zero.1 h1 with h2 | h2
      · cases h2
      exact this h2
theorem lim_val {xs : List Nat} (hu : U32 xs) (hc : Canon xs) : lim (val xs) = xs := by
  induction xs with
  | nil => exact lim_zero
  | cons x xs ih =>
    have hne := hc.val_ne (by simp)
    have hx : x < B := hu.head
    have h1 : (x + B * val xs) % B = x := by rw [Nat.add_mul_mod_self_left]; exact Nat.mod_eq_of_lt hx
    have h2 : (x + B * val xs) / B = val xs := by rw [Nat.add_mul_div_left _ _ B_pos, Nat.div_eq_of_lt hx, Nat.zero_add]
    rw [lim_pos hne]
    simp only [val]
    rw [h1, h2, ih hu.tail hc.tail]
theorem Canon_lim (n : Nat) : Canon (lim n) := by
  induction n using Nat.strongRecOn with
  | _ n ih =>
    by_cases h : n = 0
    · subst h; rw [lim_zero]; exact .inl rfl
    rw [lim_pos h]
    right
    by_cases h2 : n / B = 0
    · rw [h2, lim_zero]
      have : n % B = n := Nat.mod_eq_of_lt ((Nat.div_eq_zero_iff_lt B_pos).1 h2)
      simp [List.getD_eq_getElem?_getD, this, h]
    have := ih _ (Nat.div_lt_self (Nat.pos_of_ne_zero h) B_gt)
    rw [lim_pos h2] at this ⊢
    rcases this with h3 | h3
    · cases h3
    simpa [List.getD_eq_getElem?_getD] using h3
theorem val_dropLast {xs : List Nat} (h : xs.getD (xs.length - 1) 0 = 0) : val xs.dropLast = val xs := by
  by_cases hx : xs = []
  · subst hx; rfl
  have e : xs = xs.dropLast ++ [xs.getLast hx] := (List.dropLast_concat_getLast hx).symm
  have hl : xs.getLast hx = 0 := by
    rw [List.getD_eq_getElem?_getD, ← List.getLast?_eq_getElem?, List.getLast?_eq_some_getLast hx] at h
    exact h
  have : val xs = val (xs.dropLast ++ [xs.getLast hx]) := by rw [← e]
  rw [this, val_append, hl]
  simp [val]
theorem U32.dropLast {xs : List Nat} (h : U32 xs) : U32 xs.dropLast := fun y hy => h y (List.dropLast_subset _ hy)
theorem ln_zero : (lim 0).length = 0 := by rw [lim_zero]; rfl
theorem ln_lt (n : Nat) : n < B ^ (lim n).length := by
  have := val_lt (U32_lim n)
  rwa [val_lim] at this
theorem le_ln {n : Nat} (h : n ≠ 0) : B ^ ((lim n).length - 1) ≤ n := by
  induction n using Nat.strongRecOn with
  | _ n ih =>
    by_cases h2 : n / B = 0
    · rw [lim_pos h, h2, lim_zero]; simp; omega
    have := ih _ (Nat.div_lt_self (Nat.pos_of_ne_zero h) B_gt) h2
    have h3 : (lim n).length = (lim (n / B)).length + 1 := by rw [lim_pos h]; rfl
    have h4 : (lim (n / B)).length ≠ 0 := by rw [lim_pos h2]; simp
    have h5 : (lim n).length - 1 = ((lim (n / B)).length - 1) + 1 := by omega
    rw [h5, Nat.pow_succ]
    exact Nat.le_trans (Nat.mul_le_mul_right _ this) (Nat.div_mul_le_self n B)
theorem ln_le {n k : Nat} (h : n < B ^ k) : (lim n).length ≤ k := by
  by_cases h0 : n = 0
  · subst h0; rw [ln_zero]; omega
  have h1 := le_ln h0
  have h2 : B ^ ((lim n).length - 1) < B ^ k := Nat.lt_of_le_of_lt h1 h
  have h3 := (Nat.pow_lt_pow_iff_right B_gt).1 h2
  omega
theorem ln_le_iff {n k : Nat} : (lim n).length ≤ k ↔ n < B ^ k :=
  ⟨fun h => Nat.lt_of_lt_of_le (ln_lt n) (Nat.pow_le_pow_right B_pos h), ln_le⟩
theorem ln_mono {m n : Nat} (h : m ≤ n) : (lim m).length ≤ (lim n).length := ln_le (Nat.lt_of_le_of_lt h (ln_lt n))
theorem ln_pos {n : Nat} : 0 < (lim n).length ↔ n ≠ 0 := by
  constructor
  · intro h e; subst e; rw [ln_zero] at h; omega
  intro h; rw [lim_pos h]; simp
@[irreducible] def dig (n i : Nat) : Nat := n / B ^ i % B
theorem lim_get (n i : Nat) : (lim n).getD i 0 = dig n i := by
  induction i generalizing n with
  | zero =>
    by_cases h : n = 0
    · subst h; rw [lim_zero]; simp [dig]
    rw [lim_pos h]; simp [dig]
  | succ i ih =>
    by_cases h : n = 0
    · subst h; rw [lim_zero]; simp [dig]
    rw [lim_pos h]
    have : (n % B :: lim (n / B)).getD (i + 1) 0 = (lim (n / B)).getD i 0 := by simp [List.getD_eq_getElem?_getD]
    rw [this, ih, dig, dig, Nat.pow_succ, Nat.mul_comm (B ^ i) B, Nat.div_div_eq_div_mul]
theorem dig_lt (n i : Nat) : dig n i < 4294967296 := by rw [dig]; exact Nat.mod_lt _ B_pos
theorem mod_succ (n i : Nat) : n % B ^ (i + 1) = n % B ^ i + B ^ i * dig n i := by
  rw [dig, Nat.pow_succ, Nat.mod_mul]
abbrev numD (n : Nat) : D := sln .u32 (lim n)
theorem take_set {ys : List Nat} {i v : Nat} (h : i < ys.length) : (ys.set i v).take (i + 1) = ys.take i ++ [v] := by
  rw [List.take_add_one, List.take_set_of_le (Nat.le_refl _)]
  simp [h]
theorem U32.set {ys : List Nat} {i v : Nat} (h : U32 ys) (hv : v < 4294967296) : U32 (ys.set i v) := fun y hy => by
  rcases List.mem_or_eq_of_mem_set hy with h1 | h1
  · exact h y h1
  subst h1; exact hv
theorem val_take_set {ys : List Nat} {i v : Nat} (h : i < ys.length) : val ((ys.set i v).take (i + 1)) = val (ys.take i) + B ^ i * v := by
  rw [take_set h, val_append, List.length_take, Nat.min_eq_left (Nat.le_of_lt h)]
  simp [val]
theorem U32.replicate {n : Nat} : U32 (List.replicate n 0) := fun x hx => by rw [(List.mem_replicate.1 hx).2]; decide
theorem add_step {a b i c n : Nat} {ys : List Nat} (hu : U32 ys) (hl : ys.length = n) (hi : i < ys.length) (hc : c ≤ 1) (hv : val (ys.take i) + B ^ i * c = a % B ^ i + b % B ^ i) :
    U32 (ys.set i ((c + (dig a i + dig b i)) % 4294967296)) ∧ (ys.set i ((c + (dig a i + dig b i)) % 4294967296)).length = n ∧ i + 1 ≤ (ys.set i ((c + (dig a i + dig b i)) % 4294967296)).length ∧ (c + (dig a i + dig b i)) / 4294967296 ≤ 1 ∧
      val ((ys.set i ((c + (dig a i + dig b i)) % 4294967296)).take (i + 1)) + B ^ (i + 1) * ((c + (dig a i + dig b i)) / 4294967296) = a % B ^ (i + 1) + b % B ^ (i + 1) := by
  have d1 := dig_lt a i
  have d2 := dig_lt b i
  refine ⟨hu.set (Nat.mod_lt _ (by decide)), by simpa using hl, by rw [List.length_set]; omega, by omega, ?_⟩
  rw [val_take_set hi, mod_succ, mod_succ, Nat.pow_succ, Nat.mul_assoc]
  generalize hs : c + (dig a i + dig b i) = s
  have h1 : B ^ i * (s % 4294967296) + B ^ i * (B * (s / 4294967296)) = B ^ i * s := by
    rw [← Nat.mul_add]; congr 1; exact Nat.mod_add_div s B
  have h2 : B ^ i * s = B ^ i * c + (B ^ i * dig a i + B ^ i * dig b i) := by rw [← hs, Nat.mul_add, Nat.mul_add]
  omega
theorem add_end {a b c n : Nat} {ys : List Nat} (hl : ys.length = n) (ha : (lim a).length < n) (hb : (lim b).length < n) (hu : U32 ys) (hv : val (ys.take n) + B ^ n * c = a % B ^ n + b % B ^ n) : val ys = a + b := by
  have h1 : ∀ m : Nat, (lim m).length < n → m < B ^ (n - 1) := fun m h => ln_le_iff.1 (by omega)
  have ha' := h1 a ha
  have hb' := h1 b hb
  have h2 : B ^ n = B ^ (n - 1) * B := by rw [← Nat.pow_succ]; congr 1; omega
  have hB : B ^ (n - 1) * 2 ≤ B ^ (n - 1) * B := Nat.mul_le_mul_left _ (by decide)
  rw [Nat.mod_eq_of_lt (by omega), Nat.mod_eq_of_lt (by omega), List.take_of_length_le (by omega)] at hv
  have hlt : a + b < B ^ n := by omega
  have hc : c = 0 := by
    rcases Nat.eq_zero_or_pos c with h | h
    · exact h
    have : B ^ n * 1 ≤ B ^ n * c := Nat.mul_le_mul_left _ h
    omega
  subst hc
  omega
end Go.V
set_option synthInstance.maxSize 100000
set_option synthInstance.maxHeartbeats 2000000
namespace Go.V
open Go.RowKit Go.Proofs
theorem ZlO (xs : List Nat) (hx : U32 xs) : PC C ZcC [sln .u32 xs] (fun o => o = .ret (numD (val xs))) := by
  refine PC.rn Zcd ZeN ZeO (rs := [.tmp 2]) (by rw [ZeP]) ?_
  refine ARun.lenle 0 rfl (fun hlen => ?_)
  rw [maxLen_eq] at hlen
  refine ARun.seq (ARun.region ?_); refine zza ?_; refine AOps.nil (ARun.seq (ARun.block ?_))
  refine ARun.loopI (S := List Nat) (fun ys : List Nat => [(3, .any), (4, .any), (5, .any), (6, .any), (7, .any), (8, .any), (9, .any), (10, .any), (11, .any), (12, .any), (13, .any), (14, .any), (15, .any), (16, .any), (17, .any), (18, .any), (19, .any), (0, sln .u32 ys)]) (fun ys : List Nat => []) (fun ys : List Nat => U32 ys ∧ val ys = val xs ∧ ys.length ≤ xs.length) (fun ys : List Nat => ys.length) (xs) ?_ ?_ ?_ ?_
  · exact ⟨hx, rfl, Nat.le_refl _⟩
  · (repeat' first | exact envLe_nil | apply envLe_any | apply envLe_same)
  · rfl
  rintro ys hinv ih
  obtain ⟨hu, hv, hl⟩ := hinv
  refine ARun.seq (ARun.seq (ARun.region ?_)); refine zzm ?_; refine zzN ?_; refine zzi ?_; refine zzm ?_
  refine AOps.bool 6 rfl (fun h => ?_) (fun h => ?_)
  · skip
    replace h := of_decide_eq_true h
    refine zzm ?_; refine zzm ?_; refine zzN ?_
    refine y_op rfl (q_sub rfl rfl (nsub1_i64 (by omega) (by omega))) ?_
    refine y_op rfl (Zag rfl rfl rfl rfl (by omega) (by omega) (nts_ne (by omega)) (drop_nat rfl)) ?_
    refine y_op rfl (q_load rfl rfl rfl (nts_load (by omega))) ?_
    refine zzi ?_; refine zzp ?_; refine AOps.nil ?_
    refine ARun.ite rfl (fun h2 => ?_) (fun h2 => ?_)
    · skip
      replace h2 : ys.getD (ys.length - 1) 0 = 0 := by omega
      refine ARun.skip (ARun.block (ARun.region ?_)); refine zzm ?_; refine zzm ?_; refine zzN ?_
      refine y_op rfl (q_sub rfl rfl (nsub1_i64 (by omega) (by omega))) ?_
      refine y_op rfl (Zd2 (m := ys.dropLast.length) (ds := nts .u32 ys.dropLast) rfl rfl rfl rfl rfl (bnd_nat rfl rfl) (by omega) (by omega) (by simp) (by simp) (by rw [nts_slice]; simp [List.dropLast_eq_take])) ?_
      refine zza ?_; refine AOps.nil (ARun.inBlock ?_)
      refine ARun.again (ih (ys.dropLast) ?_ ?_) ?_ ?_
      · exact ⟨hu.dropLast, by rw [val_dropLast h2]; exact hv, by simp; omega⟩
      · (simp; omega)
      · (repeat' first | exact envLe_nil | apply envLe_any | apply envLe_same)
      rfl
    refine ARun.exit rfl ?_
    refine ARun.seq (ARun.region ?_); refine zzm ?_; refine zza ?_; refine AOps.nil ?_
    refine ARun.ret ?_
    refine ⟨_, _, _, .tmp rfl .nil, .cons (.same _) .nil, rfl, ?_⟩
    rw [← hv, numD, lim_val hu (.inr (by omega))]
    rfl
  replace h := of_decide_eq_false h
  refine zzk ?_; refine zzk ?_; refine zzk ?_; refine zzk ?_; refine zzk ?_; refine zzk ?_; refine zzk ?_; refine zzp ?_; refine AOps.nil ?_
  refine ARun.condF rfl ?_
  refine ARun.exit rfl ?_
  refine ARun.seq (ARun.region ?_); refine zzm ?_; refine zza ?_; refine AOps.nil ?_
  refine ARun.ret ?_
  refine ⟨_, _, _, .tmp rfl .nil, .cons (.same _) .nil, rfl, ?_⟩
  have : ys = [] := List.eq_nil_of_length_eq_zero (by omega)
  subst this
  rw [← hv, numD, val, lim_zero]
  rfl
theorem ZbH {xs : List Nat} {n : Nat} (hx : U32 xs) (hn : xs.length = n) : PC C ZcC [.sl n (nts .u32 xs)] (fun o => o = .ret (numD (val xs))) := by
  subst hn; exact ZlO xs hx
end Go.V
set_option synthInstance.maxSize 100000
set_option synthInstance.maxHeartbeats 2000000
namespace Go.V
open Go.RowKit Go.Proofs
theorem Zbu (a i : Nat) : PC C ZhO [numD a, .int .i64 (i : Int)] (fun o => o = .ret (.int .u64 (dig a i : Nat))) := by
  refine PC.rn Zdh ZgT ZgU (rs := [.tmp 4]) (by rw [ZgV]) ?_
  have hd := dig_lt a i
  have hg : (lim a).getD i 0 = dig a i := lim_get a i
  refine ARun.seq (ARun.region ?_); refine zza ?_; refine AOps.nil (ARun.seq (ARun.seq (ARun.region ?_))); refine zzm ?_; refine zzm ?_; refine zzN ?_; refine zzi ?_; refine AOps.nil ?_
  refine ARun.ite rfl (fun h => ?_) (fun h => ?_)
  · skip
    refine ARun.seq (ARun.region ?_); refine zzm ?_; refine zzm ?_
    refine y_op rfl (Zag rfl rfl rfl rfl (by omega) (by omega) (nts_ne (by omega)) (drop_nat rfl)) ?_
    refine y_op rfl (q_load rfl rfl rfl (nts_load (by omega))) ?_
    rw [hg]
    refine y_op rfl (q_conv rfl rfl rfl (nconv_u64 (by omega))) ?_
    refine zza ?_; refine AOps.nil ?_
    refine ARun.ret ?_
    refine ⟨_, _, _, .tmp rfl .nil, .cons (.same _) .nil, rfl, ?_⟩
    rfl
  refine ARun.skip (ARun.seq (ARun.region ?_)); refine zza ?_; refine AOps.nil ?_
  refine ARun.ret ?_
  refine ⟨_, _, _, .tmp rfl .nil, .cons (.same _) .nil, rfl, ?_⟩
  rw [← hg, getD_ge (by omega)]
  rfl
theorem Zaw (a b : Nat) (ha : (lim a).length ≤ 1099511627776) (hb : (lim b).length ≤ 1099511627776) : PC C Zdd [numD a, numD b] (fun o => o = .ret (numD (a + b))) := by
  refine PC.rn ZcA ZfJ ZfK (rs := [.tmp 4]) (by rw [ZfL]) ?_
  refine ARun.seq (ARun.region ?_); refine zza ?_; refine AOps.nil (ARun.seq (ARun.region ?_)); refine zzm ?_; refine zzN ?_; refine zzm ?_; refine zzN ?_
  refine y_op rfl (q_maxR rfl rfl nmax) ?_
  refine y_op rfl (q_add rfl rfl (nadd1_i64 (by omega))) ?_
  refine y_new rfl (ZaH rfl rfl rfl rfl rfl rfl rfl (by omega) (by rw [maxLen_eq]; omega) (zeros_nts _)) ?_
  refine zza ?_; refine AOps.nil (ARun.seq (ARun.region ?_)); refine zza ?_; refine AOps.nil (ARun.seq (ARun.seq (ARun.region ?_))); refine zzm ?_
  refine y_op rfl (ZbG rfl rfl rfl) ?_
  refine zzm ?_; refine AOps.nil (ARun.block ?_)
  refine ARun.loopI (S := Nat × Nat × List Nat) (fun σ : Nat × Nat × List Nat => [(7, .any), (18, .any), (19, .any), (20, .any), (21, .any), (22, .any), (23, .any), (24, .any), (25, .any), (26, .any), (27, .any), (28, .any), (29, .any), (30, .any), (31, .any), (32, .any), (33, .any), (34, .any), (35, .any), (36, .any), (17, .int .i64 (σ.1 : Int)), (6, .int .u64 (σ.2.1 : Int))]) (fun σ : Nat × Nat × List Nat => [some ⟨nts .u32 σ.2.2, Zav, 1, true, none⟩]) (fun σ : Nat × Nat × List Nat => U32 σ.2.2 ∧ σ.2.2.length = max ((lim a).length) ((lim b).length) + 1 ∧ σ.1 ≤ σ.2.2.length ∧ σ.2.1 ≤ 1 ∧ val (σ.2.2.take σ.1) + B ^ σ.1 * σ.2.1 = a % B ^ σ.1 + b % B ^ σ.1) (fun σ : Nat × Nat × List Nat => max ((lim a).length) ((lim b).length) + 1 - σ.1) ((0, 0, List.replicate (max ((lim a).length) ((lim b).length) + 1) 0)) ?_ ?_ ?_ ?_
  · exact ⟨fun x hx => by rw [(List.mem_replicate.1 hx).2]; decide, by simp, by simp, by simp, by simp [val, Nat.mod_one]⟩
  · (repeat' first | exact envLe_nil | apply envLe_any | apply envLe_same)
  · rfl
  rintro ⟨i, c, ys⟩ hinv ih
  dsimp only at hinv ih ⊢
  obtain ⟨hu, hl, hi, hc, hv⟩ := hinv
  refine ARun.seq (ARun.region ?_); refine zzi ?_; refine AOps.nil (ARun.seq ?_)
  refine ARun.ite rfl (fun h => ?_) (fun h => ?_)
  · skip
    have d1 := dig_lt a i
    have d2 := dig_lt b i
    refine ARun.skip (ARun.seq (ARun.block (ARun.seq (ARun.region ?_)))); refine zzm ?_; refine zza ?_; refine AOps.nil (ARun.seq (ARun.region ?_)); refine zzm ?_; refine zzm ?_; refine zzm ?_
    refine zzc rfl rfl (Zbu a i) ?_
    refine zzm ?_; refine zzm ?_
    refine zzc rfl rfl (Zbu b i) ?_
    refine y_op rfl (q_add rfl rfl (nadd_u64 (by omega))) ?_
    refine y_op rfl (q_add rfl rfl (nadd_u64 (by omega))) ?_
    refine zza ?_; refine AOps.nil (ARun.seq (ARun.region ?_)); refine zzm ?_; refine zzm ?_; refine zzm ?_
    refine y_op rfl (q_conv rfl rfl rfl nconv_u32) ?_
    refine y_op rfl (ZaD rfl rfl rfl rfl rfl (by omega) (by omega) (idx_nat rfl)) ?_
    refine y_new rfl (Zad rfl rfl rfl rfl rfl rfl (by simp; omega) nts_set) ?_
    refine AOps.nil (ARun.region ?_); refine zzm ?_
    refine y_op rfl (q_shr rfl rfl (by omega) nshr32) ?_
    refine zza ?_; refine AOps.nil (ARun.inBlock (ARun.region ?_))
    refine y_op rfl (q_add rfl rfl (nadd1_i64 (by omega))) ?_
    refine zzm ?_; refine AOps.nil ?_
    refine ARun.again (ih ((i + 1, (c + (dig a i + dig b i)) / 4294967296, ys.set i ((c + (dig a i + dig b i)) % 4294967296))) ?_ ?_) ?_ ?_
    · exact add_step hu hl (by omega) hc hv
    · (dsimp only; omega)
    · (repeat' first | exact envLe_nil | apply envLe_any | apply envLe_same)
    rfl
  refine ARun.exit rfl ?_
  refine ARun.seq (ARun.region ?_); refine zzm ?_
  refine y_new rfl (n_call rfl rfl (.cons (.row rfl (pures_nts _)) .nil) (ZbH hu hl) rfl) ?_
  refine zza ?_; refine AOps.nil ?_
  refine ARun.ret ?_
  refine ⟨_, _, _, .tmp rfl .nil, .cons (.same _) .nil, rfl, ?_⟩
  have hin : i = max (lim a).length (lim b).length + 1 := by omega
  subst hin
  rw [add_end hl (by omega) (by omega) hu hv]
  rfl
end Go.V
set_option synthInstance.maxSize 100000
set_option synthInstance.maxHeartbeats 2000000
namespace Go.V
open Go.RowKit Go.Proofs
theorem Zg4 (xs : List Nat) (hx : xs.length ≤ 35184372088832) : PC C Zbn [sln .u32 xs] (fun o => o = .ret (sln .u32 xs)) := by
  refine PC.rn Zax Zbg Zbh (rs := [.tmp 2]) (by rw [Zbi]) ?_
  refine ARun.seq (ARun.region ?_); refine zza ?_; refine AOps.nil (ARun.seq (ARun.seq (ARun.region ?_))); refine zzm ?_
  refine ZlN rfl rfl rfl rfl rfl (fun b hb => ?_)
  refine AOps.nil ?_
  refine ARun.cond rfl (fun h => ?_) (fun h => ?_)
  · skip
    refine ARun.seq (ARun.region ?_); refine zza ?_; refine AOps.nil ?_
    refine ARun.ret ?_
    refine ⟨_, _, _, .tmp rfl .nil, .cons .nil .nil, rfl, ?_⟩
    rw [sl_nil (hb h)]
    rfl
  refine ARun.skip (ARun.seq (ARun.region ?_))
  refine y_new rfl (Zaj rfl rfl rfl rfl rfl rfl rfl rfl rfl rfl rfl (by decide) (by decide)) ?_
  refine zzm ?_
  refine y_new rfl (Zf6 rfl rfl (by decide) rfl rfl rfl rfl rfl rfl rfl rfl rfl rfl (by simp) (by simp; omega) (by rw [maxLen_eq]; omega) rfl) ?_
  refine zza ?_; refine AOps.nil ?_
  refine ARun.ret ?_
  refine ⟨_, _, _, .tmp rfl .nil, .cons (.row rfl (pures_nts _)) .nil, rfl, ?_⟩
  simp [tupD]
end Go.V
/- NATURAL NUMBERS AS ELEMENTS: parts, differences. -/
namespace Go.V
theorem val_take_lim (a k : Nat) : val ((lim a).take k) = a % B ^ k := by
  induction k generalizing a with
  | zero => simp [val, Nat.mod_one]
  | succ k ih =>
    by_cases h : a = 0
    · subst h; rw [lim_zero]; simp [val]
    rw [lim_pos h, List.take_succ_cons, val, ih, Nat.pow_succ, Nat.mul_comm (B ^ k) B, Nat.mod_mul]
theorem lim_drop (a k : Nat) : (lim a).drop k = lim (a / B ^ k) := by
  induction k generalizing a with
  | zero => simp
  | succ k ih =>
    by_cases h : a = 0
    · subst h; rw [lim_zero]; simp [lim_zero]
    rw [lim_pos h, List.drop_succ_cons, ih, Nat.pow_succ, Nat.mul_comm (B ^ k) B, Nat.div_div_eq_div_mul]
theorem U32.take {xs : List Nat} (h : U32 xs) (k : Nat) : U32 (xs.take k) := fun x hx => h x (List.mem_of_mem_take hx)
theorem U32.drop {xs : List Nat} (h : U32 xs) (k : Nat) : U32 (xs.drop k) := fun x hx => h x (List.mem_of_mem_drop hx)
theorem mod_of_ln {a k : Nat} (h : (lim a).length ≤ k) : a % B ^ k = a := Nat.mod_eq_of_lt (ln_le_iff.1 h)
def subLo (x y c : Nat) : Nat := (4294967296 + x - y - c) % 4294967296
def subC (x y c : Nat) : Nat := if x < y + c then 1 else 0
theorem sub_lo {x y c : Nat} (hx : x < 4294967296) (hy : y < 4294967296) (hc : c ≤ 1) : IntKind.u32.wrap (IntKind.u64.wrap (IntKind.u64.wrap ((x : Int) - (y : Int)) - (c : Int))) = ((subLo x y c : Nat) : Int) := by
  rw [IntKind.wrap_u32, IntKind.wrap_u64, IntKind.wrap_u64, subLo]; omega
theorem sub_c {x y c : Nat} (hx : x < 4294967296) (hy : y < 4294967296) (hc : c ≤ 1) : (IntKind.u64.wrap (IntKind.u64.wrap ((x : Int) - (y : Int)) - (c : Int))).fdiv (2 ^ min (63 : Int).toNat IntKind.u64.bits) = ((subC x y c : Nat) : Int) := by
  have : (2 : Int) ^ min (63 : Int).toNat IntKind.u64.bits = 9223372036854775808 := by decide
  rw [this, Int.fdiv_eq_ediv_of_nonneg _ (by omega), IntKind.wrap_u64, IntKind.wrap_u64, subC]
  split <;> omega
theorem subC_le (x y c : Nat) : subC x y c ≤ 1 := by unfold subC; split <;> omega
theorem subLo_lt (x y c : Nat) : subLo x y c < 4294967296 := Nat.mod_lt _ (by decide)
theorem sub_digit {x y c : Nat} (hx : x < 4294967296) (hy : y < 4294967296) (hc : c ≤ 1) : subLo x y c + (y + c) = x + 4294967296 * subC x y c := by
  unfold subLo subC; split <;> omega
theorem sub_step {a b i c n : Nat} {ys : List Nat} (hu : U32 ys) (hl : ys.length = n) (hi : i < ys.length) (hc : c ≤ 1) (hv : val (ys.take i) + b % B ^ i = a % B ^ i + B ^ i * c → True) (hv' : val (ys.take i) + b % B ^ i = a % B ^ i + B ^ i * c) :
    U32 (ys.set i (subLo (dig a i) (dig b i) c)) ∧ (ys.set i (subLo (dig a i) (dig b i) c)).length = n ∧ i + 1 ≤ (ys.set i (subLo (dig a i) (dig b i) c)).length ∧ subC (dig a i) (dig b i) c ≤ 1 ∧
      val ((ys.set i (subLo (dig a i) (dig b i) c)).take (i + 1)) + b % B ^ (i + 1) = a % B ^ (i + 1) + B ^ (i + 1) * subC (dig a i) (dig b i) c := by
  refine ⟨hu.set (subLo_lt _ _ _), by simpa using hl, by rw [List.length_set]; omega, subC_le _ _ _, ?_⟩
  rw [val_take_set hi, mod_succ, mod_succ, Nat.pow_succ, Nat.mul_assoc]
  have h := congrArg (B ^ i * ·) (sub_digit (dig_lt a i) (dig_lt b i) hc)
  simp only [Nat.mul_add] at h
  have hB : B ^ i * (4294967296 * subC (dig a i) (dig b i) c) = B ^ i * (B * subC (dig a i) (dig b i) c) := rfl
  omega
theorem sub_end {a b c n : Nat} {ys : List Nat} (hl : ys.length = n) (ha : (lim a).length ≤ n) (hba : b ≤ a) (hc : c ≤ 1) (hu : U32 ys) (hv : val (ys.take n) + b % B ^ n = a % B ^ n + B ^ n * c) : val ys = a - b := by
  have ha' := ln_le_iff.1 ha
  rw [Nat.mod_eq_of_lt (by omega), Nat.mod_eq_of_lt ha', List.take_of_length_le (by omega)] at hv
  have hlt := val_lt hu
  rw [hl] at hlt
  have hc0 : c = 0 := by
    rcases Nat.eq_zero_or_pos c with h | h
    · exact h
    have : c = 1 := by omega
    subst this
    omega
  subst hc0
  omega
theorem lim_load {k : IntKind} {a i : Nat} (h : i < (lim a).length) : ((nts k (lim a)).drop i)[0]? = some (D.int k (dig a i : Nat)) := by
  rw [nts_load h, lim_get]
theorem B_pow (q : Nat) : B ^ q = 2 ^ (32 * q) := by rw [Nat.pow_mul]; rfl
theorem two_pow_split (n : Nat) : 2 ^ n = B ^ (n / 32) * 2 ^ (n % 32) := by
  rw [B_pow, ← Nat.pow_add]; congr 1; omega
theorem shl_bound {x r : Nat} (hx : x < 4294967296) (hr : r < 32) : x * 2 ^ r < 9223372036854775808 := by
  have h1 : 2 ^ r ≤ 2 ^ 31 := Nat.pow_le_pow_right (by decide) (by omega)
  have h2 : x * 2 ^ r ≤ 4294967295 * 2 ^ 31 := Nat.mul_le_mul (by omega) h1
  omega
theorem shl_carry {x r c : Nat} (hx : x < 4294967296) (hc : c < 2 ^ r) : (c + x * 2 ^ r) / 4294967296 < 2 ^ r := by
  rw [Nat.div_lt_iff_lt_mul (by decide)]
  have h : (x + 1) * 2 ^ r ≤ 4294967296 * 2 ^ r := Nat.mul_le_mul_right _ hx
  rw [Nat.add_mul] at h
  have := Nat.mul_comm 4294967296 (2 ^ r)
  omega
theorem shl_step {a q r i c n : Nat} {ys : List Nat} (hu : U32 ys) (hl : ys.length = n) (hi : q + i + 1 ≤ ys.length) (hc : c < 2 ^ r) (hv : val (ys.take (q + i)) + B ^ (q + i) * c = a % B ^ i * 2 ^ r * B ^ q) :
    U32 (ys.set (q + i) ((c + dig a i * 2 ^ r) % 4294967296)) ∧ (ys.set (q + i) ((c + dig a i * 2 ^ r) % 4294967296)).length = n ∧ (c + dig a i * 2 ^ r) / 4294967296 < 2 ^ r ∧
      val ((ys.set (q + i) ((c + dig a i * 2 ^ r) % 4294967296)).take (q + (i + 1))) + B ^ (q + (i + 1)) * ((c + dig a i * 2 ^ r) / 4294967296) = a % B ^ (i + 1) * 2 ^ r * B ^ q := by
  refine ⟨hu.set (Nat.mod_lt _ (by decide)), by simpa using hl, shl_carry (dig_lt a i) hc, ?_⟩
  rw [← Nat.add_assoc, val_take_set (by omega), mod_succ, Nat.pow_succ, Nat.mul_assoc]
  generalize hs : c + dig a i * 2 ^ r = s
  have h1 : B ^ (q + i) * (s % 4294967296) + B ^ (q + i) * (B * (s / 4294967296)) = B ^ (q + i) * s := by
    rw [← Nat.mul_add]; congr 1; exact Nat.mod_add_div s B
  have h2 : B ^ (q + i) * s = B ^ (q + i) * c + B ^ (q + i) * (dig a i * 2 ^ r) := by rw [← hs, Nat.mul_add]
  have h3 : (a % B ^ i + B ^ i * dig a i) * 2 ^ r * B ^ q = a % B ^ i * 2 ^ r * B ^ q + B ^ (q + i) * (dig a i * 2 ^ r) := by
    rw [Nat.add_mul, Nat.add_mul, Nat.pow_add]
    congr 1
    simp only [Nat.mul_comm, Nat.mul_left_comm, Nat.mul_assoc]
  omega
theorem shl_end {a q r c n : Nat} {ys : List Nat} (hl : ys.length = n) (hn : n = q + (lim a).length + 1) (hv : val (ys.take (q + (lim a).length)) + B ^ (q + (lim a).length) * c = a % B ^ (lim a).length * 2 ^ r * B ^ q) : val (ys.set (q + (lim a).length) c) = a * (B ^ q * 2 ^ r) := by
  have h := val_take_set (v := c) (show q + (lim a).length < ys.length by omega)
  rw [List.take_of_length_le (by rw [List.length_set]; omega)] at h
  rw [h, hv, mod_of_ln (Nat.le_refl _), Nat.mul_assoc, Nat.mul_comm (2 ^ r)]
end Go.V
namespace Go.V
theorem val_replicate (n : Nat) : val (List.replicate n 0) = 0 := by
  induction n with
  | zero => rfl
  | succ n ih => rw [List.replicate_succ, val, ih]; rfl
end Go.V
set_option synthInstance.maxSize 100000
set_option synthInstance.maxHeartbeats 2000000
namespace Go.V
open Go.RowKit Go.Proofs
theorem ZbK (a b : Nat) (ha : (lim a).length ≤ 1099511627776) (hb : b ≤ a) : PC C Zdg [numD a, numD b] (fun o => o = .ret (numD (a - b))) := by
  refine PC.rn ZcE ZfS ZfT (rs := [.tmp 4]) (by rw [ZfU]) ?_
  refine ARun.seq (ARun.region ?_); refine zza ?_; refine AOps.nil (ARun.seq (ARun.region ?_)); refine zzm ?_; refine zzN ?_
  refine y_new rfl (ZaH rfl rfl rfl rfl rfl rfl rfl (by omega) (by rw [maxLen_eq]; omega) (zeros_nts _)) ?_
  refine zza ?_; refine AOps.nil (ARun.seq (ARun.region ?_)); refine zza ?_; refine AOps.nil (ARun.seq (ARun.seq (ARun.region ?_))); refine zzm ?_
  refine y_op rfl (ZbG rfl rfl rfl) ?_
  refine zzm ?_; refine AOps.nil (ARun.block ?_)
  refine ARun.loopI (S := Nat × Nat × List Nat) (fun σ : Nat × Nat × List Nat => [(7, .any), (8, .any), (15, .any), (16, .any), (17, .any), (18, .any), (19, .any), (20, .any), (21, .any), (22, .any), (23, .any), (24, .any), (25, .any), (26, .any), (27, .any), (28, .any), (29, .any), (30, .any), (31, .any), (32, .any), (33, .any), (14, .int .i64 (σ.1 : Int)), (6, .int .u64 (σ.2.1 : Int))]) (fun σ : Nat × Nat × List Nat => [some ⟨nts .u32 σ.2.2, Zav, 1, true, none⟩]) (fun σ : Nat × Nat × List Nat => U32 σ.2.2 ∧ σ.2.2.length = (lim a).length ∧ σ.1 ≤ σ.2.2.length ∧ σ.2.1 ≤ 1 ∧ val (σ.2.2.take σ.1) + b % B ^ σ.1 = a % B ^ σ.1 + B ^ σ.1 * σ.2.1) (fun σ : Nat × Nat × List Nat => (lim a).length - σ.1) ((0, 0, List.replicate (lim a).length 0)) ?_ ?_ ?_ ?_
  · exact ⟨U32.replicate, by simp, by simp, by simp, by simp [val, Nat.mod_one]⟩
  · (repeat' first | exact envLe_nil | apply envLe_any | apply envLe_same)
  · rfl
  rintro ⟨i, c, ys⟩ hinv ih
  dsimp only at hinv ih ⊢
  obtain ⟨hu, hl, hi, hc, hv⟩ := hinv
  refine ARun.seq (ARun.region ?_); refine zzi ?_; refine AOps.nil (ARun.seq ?_)
  refine ARun.ite rfl (fun h => ?_) (fun h => ?_)
  · skip
    have d1 := dig_lt a i
    have d2 := dig_lt b i
    refine ARun.skip (ARun.seq (ARun.block (ARun.seq (ARun.region ?_)))); refine zzm ?_; refine zza ?_; refine AOps.nil (ARun.seq (ARun.region ?_)); refine zzm ?_; refine zzm ?_
    refine zzc rfl rfl (Zbu a i) ?_
    refine zzm ?_; refine zzm ?_
    refine zzc rfl rfl (Zbu b i) ?_
    refine y_op rfl (q_sub rfl rfl rfl) ?_
    refine zzm ?_
    refine y_op rfl (q_sub rfl rfl rfl) ?_
    refine zza ?_; refine AOps.nil (ARun.seq (ARun.region ?_)); refine zzm ?_; refine zzm ?_; refine zzm ?_
    refine y_op rfl (q_conv rfl rfl rfl (sub_lo d1 d2 hc)) ?_
    refine y_op rfl (ZaD rfl rfl rfl rfl rfl (by omega) (by omega) (idx_nat rfl)) ?_
    refine y_new rfl (Zad rfl rfl rfl rfl rfl rfl (by simp; omega) nts_set) ?_
    refine AOps.nil (ARun.region ?_); refine zzm ?_
    refine y_op rfl (q_shr rfl rfl (by omega) (sub_c d1 d2 hc)) ?_
    refine zza ?_; refine AOps.nil (ARun.inBlock (ARun.region ?_))
    refine y_op rfl (q_add rfl rfl (nadd1_i64 (by omega))) ?_
    refine zzm ?_; refine AOps.nil ?_
    refine ARun.again (ih ((i + 1, subC (dig a i) (dig b i) c, ys.set i (subLo (dig a i) (dig b i) c))) ?_ ?_) ?_ ?_
    · exact sub_step hu hl (by omega) hc (fun _ => trivial) hv
    · (dsimp only; omega)
    · (repeat' first | exact envLe_nil | apply envLe_any | apply envLe_same)
    rfl
  refine ARun.exit rfl ?_
  refine ARun.seq (ARun.region ?_); refine zzm ?_
  refine y_new rfl (n_call rfl rfl (.cons (.row rfl (pures_nts _)) .nil) (ZbH hu hl) rfl) ?_
  refine zza ?_; refine AOps.nil ?_
  refine ARun.ret ?_
  refine ⟨_, _, _, .tmp rfl .nil, .cons (.same _) .nil, rfl, ?_⟩
  have hin : i = (lim a).length := by omega
  subst hin
  rw [sub_end hl (Nat.le_refl _) hb hc hu hv]
  rfl
theorem Za7 (a n : Nat) (ha : (lim a).length ≤ 1099511627776) : PC C ZgW [numD a, .int .i64 (n : Int)] (fun o => o = .ret (numD (a % B ^ n))) := by
  refine PC.rn ZcH ZfZ Zf0 (rs := [.tmp 4]) (by rw [Zf1]) ?_
  have hm : min n (lim a).length ≤ (lim a).length := Nat.min_le_right _ _
  have ht : (lim a).take (min n (lim a).length) = (lim a).take n := by rw [← List.take_eq_take_min]
  refine ARun.seq (ARun.region ?_); refine zza ?_; refine AOps.nil (ARun.seq (ARun.region ?_)); refine zzm ?_; refine zzm ?_; refine zzm ?_; refine zzN ?_
  refine y_op rfl (q_minR rfl rfl nmin) ?_
  refine y_op rfl (Zd2 (m := ((lim a).take n).length) (ds := nts .u32 ((lim a).take n)) rfl rfl rfl rfl rfl (bnd_nat rfl rfl) (by omega) (by omega) (by simp) (by simp) (by rw [nts_slice, ht]; simp)) ?_
  refine zzc rfl rfl (Zg4 _ (by rw [List.length_take]; omega)) ?_
  refine zzc rfl rfl (ZlO _ ((U32_lim a).take n)) ?_
  refine zza ?_; refine AOps.nil ?_
  refine ARun.ret ?_
  refine ⟨_, _, _, .tmp rfl .nil, .cons (.same _) .nil, rfl, ?_⟩
  rw [val_take_lim]
  rfl
theorem ZaC (a n : Nat) (ha : (lim a).length ≤ 1099511627776) : PC C ZfY [numD a, .int .i64 (n : Int)] (fun o => o = .ret (numD (a / B ^ n))) := by
  refine PC.rn Zcf ZeT ZeU (rs := [.tmp 4]) (by rw [ZeV]) ?_
  have hm : min n (lim a).length ≤ (lim a).length := Nat.min_le_right _ _
  have hd : (lim a).drop (min n (lim a).length) = lim (a / B ^ n) := by
    rw [← lim_drop]
    rcases Nat.le_total n (lim a).length with h | h
    · rw [Nat.min_eq_left h]
    rw [Nat.min_eq_right h, List.drop_of_length_le (Nat.le_refl _), List.drop_of_length_le h]
  have hdl : (lim a).length - min n (lim a).length = (lim (a / B ^ n)).length := by rw [← hd, List.length_drop]
  refine ARun.seq (ARun.region ?_); refine zza ?_; refine AOps.nil (ARun.seq (ARun.region ?_)); refine zzm ?_; refine zzm ?_; refine zzm ?_; refine zzN ?_
  refine y_op rfl (q_minR rfl rfl nmin) ?_
  refine y_op rfl (Zd2 (ds := nts .u32 (lim (a / B ^ n))) rfl rfl rfl rfl (bnd_nat rfl rfl) rfl (by omega) (by omega) (by simp) hdl (by rw [nts_slice, List.take_of_length_le (Nat.le_refl _), hd])) ?_
  refine zzc rfl rfl (Zg4 _ (by omega)) ?_
  refine zza ?_; refine AOps.nil ?_
  refine ARun.ret ?_
  refine ⟨_, _, _, .tmp rfl .nil, .cons (.same _) .nil, rfl, ?_⟩
  rfl
end Go.V
/- ARITHMETIC ON NUMBERS THAT ARE NOT NEGATIVE, told in Nat. -/
namespace Go.V
open Go.RowKit
theorem bv_nat {w m : Nat} : BitVec.ofInt w (m : Int) = BitVec.ofNat w m := by simp
theorem nor_u64 {m n : Nat} (hm : m < 18446744073709551616) (hn : n < 18446744073709551616) : IntKind.u64.wrap ((BitVec.ofInt IntKind.u64.bits (m : Int) ||| BitVec.ofInt IntKind.u64.bits (n : Int)).toNat : Int) = ((m ||| n : Nat) : Int) := by
  have h : (BitVec.ofInt IntKind.u64.bits (m : Int) ||| BitVec.ofInt IntKind.u64.bits (n : Int)).toNat = m ||| n := by
    rw [bv_nat, bv_nat, BitVec.toNat_or, BitVec.toNat_ofNat, BitVec.toNat_ofNat]
    rw [show IntKind.u64.bits = 64 from rfl, Nat.mod_eq_of_lt (by omega), Nat.mod_eq_of_lt (by omega)]
  rw [h]
  have : m ||| n < 2 ^ 64 := Nat.or_lt_two_pow (by omega) (by omega)
  exact IntWalk.u64_in _ (by omega)
theorem nor_add {c x s : Nat} (hc : c < 2 ^ s) (h : c + x * 2 ^ s < 18446744073709551616) : IntKind.u64.wrap ((BitVec.ofInt IntKind.u64.bits (c : Int) ||| BitVec.ofInt IntKind.u64.bits ((x * 2 ^ s : Nat) : Int)).toNat : Int) = ((c + x * 2 ^ s : Nat) : Int) := by
  rw [nor_u64 (by omega) (by omega)]
  congr 1
  rw [Nat.mul_comm x, Nat.or_comm, ← Nat.two_pow_add_eq_or_of_lt hc, Nat.add_comm]
theorem nor_add' {c x s : Nat} (hc : c < 2 ^ s) (h : c + x * 2 ^ s < 18446744073709551616) : IntKind.u64.wrap ((BitVec.ofInt IntKind.u64.bits ((x * 2 ^ s : Nat) : Int) ||| BitVec.ofInt IntKind.u64.bits (c : Int)).toNat : Int) = ((c + x * 2 ^ s : Nat) : Int) := by
  rw [nor_u64 (by omega) (by omega)]
  congr 1
  rw [Nat.mul_comm x, ← Nat.two_pow_add_eq_or_of_lt hc, Nat.add_comm]
theorem nshl_u64 {y : Int} {m s : Nat} (hy : y = (s : Int)) (hs : s ≤ 64) (h : m * 2 ^ s < 18446744073709551616) : IntKind.u64.wrap ((m : Int) * 2 ^ min y.toNat IntKind.u64.bits) = ((m * 2 ^ s : Nat) : Int) := by
  subst hy
  rw [Int.toNat_natCast, show IntKind.u64.bits = 64 from rfl, Nat.min_eq_left hs]
  have : (m : Int) * 2 ^ s = ((m * 2 ^ s : Nat) : Int) := by simp
  rw [this]
  exact IntWalk.u64_in _ (by omega)
theorem fdiv_nat {m n : Nat} : (m : Int).fdiv (n : Int) = ((m / n : Nat) : Int) := by
  rw [Int.fdiv_eq_ediv_of_nonneg _ (Int.natCast_nonneg n)]; simp
theorem nshr {y : Int} {k : IntKind} {m s : Nat} (hy : y = (s : Int)) (hs : s ≤ k.bits) : (m : Int).fdiv (2 ^ min y.toNat k.bits) = ((m / 2 ^ s : Nat) : Int) := by
  subst hy
  rw [Int.toNat_natCast, Nat.min_eq_left hs]
  have : (2 : Int) ^ s = ((2 ^ s : Nat) : Int) := by simp
  rw [this, fdiv_nat]
theorem nquo_i64 {y : Int} {m n : Nat} (hy : y = (n : Int)) (h : m ≤ 9223372036854775807) : IntKind.i64.wrap ((m : Int).tdiv y) = ((m / n : Nat) : Int) := by
  subst hy
  have : (m : Int).tdiv (n : Int) = ((m / n : Nat) : Int) := by simp
  rw [this]
  have h1 := Nat.div_le_self m n
  generalize m / n = q at h1 ⊢
  exact IntWalk.i64_in _ (by omega)
theorem nquo_u64 {y : Int} {m n : Nat} (hy : y = (n : Int)) (h : m < 18446744073709551616) : IntKind.u64.wrap ((m : Int).tdiv y) = ((m / n : Nat) : Int) := by
  subst hy
  have : (m : Int).tdiv (n : Int) = ((m / n : Nat) : Int) := by simp
  rw [this]
  have h1 := Nat.div_le_self m n
  generalize m / n = q at h1 ⊢
  exact IntWalk.u64_in _ (by omega)
theorem nrem {y : Int} {m n : Nat} (hy : y = (n : Int)) : (m : Int).tmod y = ((m % n : Nat) : Int) := by
  subst hy; exact (Int.ofNat_tmod m n).symm
example : ((32 : Int)) = ((32 : Nat) : Int) := rfl
end Go.V
namespace Go.V
section
variable {C : Ctx} {env : List D} {H : Heap} {dst : Option Tmp} {ty : TypeId} {pos : String} {aft : Array Edge} {gd : Option (Nat × Bool)} {x y : Operand}
theorem q_orR {k : IntKind} {m n r : Int} {xt yt : TypeId} (hx : evO C env x = some (.int k m)) (hy : evO C env y = some (.int k n)) (hr : k.wrap ((BitVec.ofInt k.bits m ||| BitVec.ofInt k.bits n).toNat : Int) = r) : OpQ C ⟨dst, .binOp .or xt x y yt, ty, pos, aft, gd⟩ env H (.int k r) := by
  subst hr; exact q_int hx hy rfl
end
end Go.V
set_option synthInstance.maxSize 100000
set_option synthInstance.maxHeartbeats 2000000
namespace Go.V
open Go.RowKit Go.Proofs
theorem Za8 (a n : Nat) (ha : (lim a).length ≤ 1099511627776) (hn : n ≤ 1099511627776) : PC C ZbR [numD a, .int .i64 (n : Int)] (fun o => o = .ret (numD (a * 2 ^ n))) := by
  refine PC.rn Zcu Zft Zfu (rs := [.tmp 4]) (by rw [Zfv]) ?_
  have hr : n % 32 < 32 := Nat.mod_lt _ (by decide)
  refine ARun.seq (ARun.region ?_); refine zza ?_; refine AOps.nil (ARun.seq (ARun.seq (ARun.region ?_))); refine zzm ?_; refine zzN ?_; refine zzi ?_; refine AOps.nil ?_
  refine ARun.ite rfl (fun h => ?_) (fun h => ?_)
  · skip
    refine ARun.seq (ARun.region ?_); refine zza ?_; refine AOps.nil ?_
    refine ARun.ret ?_
    refine ⟨_, _, _, .tmp rfl .nil, .cons .nil .nil, rfl, ?_⟩
    have h0 : a = 0 := by
      have : (lim a).length = 0 := by omega
      exact Classical.byContradiction fun hne => by have := ln_pos.2 hne; omega
    subst h0
    rw [Nat.zero_mul, numD, lim_zero]
    rfl
  refine ARun.skip (ARun.seq (ARun.region ?_)); refine zzm ?_
  refine y_op rfl (q_quo rfl rfl (by omega) (nquo_i64 (n := 32) rfl (by omega))) ?_
  refine zzm ?_; refine zzN ?_
  refine y_op rfl (q_add rfl rfl (nadd_i64 (by omega))) ?_
  refine y_op rfl (q_add rfl rfl (nadd1_i64 (by omega))) ?_
  refine y_new rfl (ZaH rfl rfl rfl rfl rfl rfl rfl (by omega) (by rw [maxLen_eq]; omega) (zeros_nts _)) ?_
  refine zza ?_; refine AOps.nil (ARun.seq (ARun.region ?_)); refine zza ?_; refine AOps.nil (ARun.seq (ARun.seq (ARun.region ?_))); refine zzm ?_; refine zzN ?_; refine zzm ?_; refine AOps.nil (ARun.block ?_)
  refine ARun.loopI (S := Nat × Nat × List Nat) (fun σ : Nat × Nat × List Nat => [(7, .any), (8, .any), (22, .any), (23, .any), (24, .any), (25, .any), (26, .any), (27, .any), (28, .any), (29, .any), (30, .any), (31, .any), (32, .any), (33, .any), (34, .any), (35, .any), (36, .any), (37, .any), (38, .any), (39, .any), (40, .any), (41, .any), (42, .any), (43, .any), (21, .int .i64 (σ.1 : Int)), (6, .int .u64 (σ.2.1 : Int))]) (fun σ : Nat × Nat × List Nat => [some ⟨nts .u32 σ.2.2, Zav, 1, true, none⟩]) (fun σ : Nat × Nat × List Nat => U32 σ.2.2 ∧ σ.2.2.length = n / 32 + (lim a).length + 1 ∧ σ.1 ≤ (lim a).length ∧ σ.2.1 < 2 ^ (n % 32) ∧ val (σ.2.2.take (n / 32 + σ.1)) + B ^ (n / 32 + σ.1) * σ.2.1 = a % B ^ σ.1 * 2 ^ (n % 32) * B ^ (n / 32)) (fun σ : Nat × Nat × List Nat => (lim a).length - σ.1) ((0, 0, List.replicate (n / 32 + (lim a).length + 1) 0)) ?_ ?_ ?_ ?_
  · exact ⟨U32.replicate, by simp, by simp, Nat.two_pow_pos _, by simp [val_replicate, Nat.mod_one]⟩
  · (repeat' first | exact envLe_nil | apply envLe_any | apply envLe_same)
  · rfl
  rintro ⟨i, c, ys⟩ hinv ih
  dsimp only at hinv ih ⊢
  obtain ⟨hu, hl, hi, hc, hv⟩ := hinv
  refine ARun.seq (ARun.region ?_); refine zzi ?_; refine AOps.nil (ARun.seq ?_)
  refine ARun.ite rfl (fun h2 => ?_) (fun h2 => ?_)
  · skip
    have d1 := dig_lt a i
    have d2 := shl_bound d1 hr
    have d3 : 2 ^ (n % 32) ≤ 2 ^ 31 := Nat.pow_le_pow_right (by decide) (by omega)
    refine ARun.skip (ARun.seq (ARun.block (ARun.seq (ARun.region ?_)))); refine zzm ?_
    refine y_op rfl (Zag rfl rfl rfl rfl (by omega) (by omega) (nts_ne (by omega)) (drop_nat rfl)) ?_
    refine y_op rfl (q_load rfl rfl rfl (lim_load (by omega))) ?_
    refine zza ?_; refine zza ?_; refine AOps.nil (ARun.seq (ARun.region ?_)); refine zzm ?_; refine zzm ?_
    refine y_op rfl (q_conv rfl rfl rfl (nconv_u64 (by omega))) ?_
    refine zzm ?_
    refine y_op rfl (q_rem rfl rfl (by omega) (nrem (n := 32) rfl)) ?_
    refine y_op rfl (q_shl rfl rfl (by omega) (nshl_u64 rfl (by omega) (by omega))) ?_
    refine y_op rfl (q_orR rfl rfl (nor_add (by omega) (by omega))) ?_
    refine zza ?_; refine AOps.nil (ARun.seq (ARun.region ?_)); refine zzm ?_; refine zzm ?_
    refine y_op rfl (q_quo rfl rfl (by omega) (nquo_i64 (n := 32) rfl (by omega))) ?_
    refine zzm ?_
    refine y_op rfl (q_add rfl rfl (nadd_i64 (by omega))) ?_
    refine zzm ?_
    refine y_op rfl (q_conv rfl rfl rfl nconv_u32) ?_
    refine y_op rfl (ZaD rfl rfl rfl rfl rfl (by omega) (by omega) (idx_nat rfl)) ?_
    refine y_new rfl (Zad rfl rfl rfl rfl rfl rfl (by simp; omega) nts_set) ?_
    refine AOps.nil (ARun.region ?_); refine zzm ?_
    refine y_op rfl (q_shr rfl rfl (by omega) nshr32) ?_
    refine zza ?_; refine AOps.nil (ARun.inBlock (ARun.region ?_))
    refine y_op rfl (q_add rfl rfl (nadd1_i64 (by omega))) ?_
    refine zzm ?_; refine AOps.nil ?_
    refine ARun.again (ih ((i + 1, (c + dig a i * 2 ^ (n % 32)) / 4294967296, ys.set (n / 32 + i) ((c + dig a i * 2 ^ (n % 32)) % 4294967296))) ?_ ?_) ?_ ?_
    · (obtain ⟨k1, k2, k3, k4⟩ := shl_step hu hl (by omega) hc hv; exact ⟨k1, k2, by omega, k3, k4⟩)
    · (dsimp only; omega)
    · (repeat' first | exact envLe_nil | apply envLe_any | apply envLe_same)
    rfl
  have hin : i = (lim a).length := by omega
  subst hin
  have d3 : 2 ^ (n % 32) ≤ 2 ^ 31 := Nat.pow_le_pow_right (by decide) (by omega)
  refine ARun.exit rfl ?_
  refine ARun.seq (ARun.region ?_); refine zzm ?_; refine zzm ?_
  refine y_op rfl (ZbG rfl rfl rfl) ?_
  refine y_op rfl (q_sub rfl rfl (nsub1_i64 (by omega) (by omega))) ?_
  refine zzm ?_
  refine y_op rfl (q_conv rfl rfl rfl (IntWalk.u32_in _ (by omega))) ?_
  refine y_op rfl (ZaD rfl rfl rfl rfl rfl (by omega) (by omega) (idx_nat rfl)) ?_
  refine y_new rfl (Zad rfl rfl rfl rfl rfl rfl (by simp; omega) nts_set) ?_
  refine AOps.nil (ARun.seq (ARun.region ?_)); refine zzm ?_
  refine y_new rfl (n_call rfl rfl (.cons (.row rfl (pures_nts _)) .nil) (ZbH (hu.set (by omega)) (by rw [List.length_set]; exact hl)) rfl) ?_
  refine zza ?_; refine AOps.nil ?_
  refine ARun.ret ?_
  refine ⟨_, _, _, .tmp rfl .nil, .cons (.same _) .nil, rfl, ?_⟩
  rw [two_pow_split n, Nat.add_sub_cancel, shl_end hl rfl hv]
  rfl
end Go.V
/- HOW MANY BINARY DIGITS; quotients by powers of 2. -/
namespace Go.V
@[irreducible] def bl (n : Nat) : Nat := if n = 0 then 0 else Nat.log2 n + 1
theorem bl_le {n k : Nat} : bl n ≤ k ↔ n < 2 ^ k := by
  unfold bl
  split
  · rename_i h; subst h; simp [Nat.two_pow_pos]
  rename_i h
  rw [Nat.succ_le_iff, Nat.log2_lt h]
theorem bl_lt {n k : Nat} : k < bl n ↔ 2 ^ k ≤ n := by
  have := @bl_le n k
  omega
theorem lt_bl (n : Nat) : n < 2 ^ bl n := bl_le.1 (Nat.le_refl _)
theorem bl_div {n k : Nat} (h : 2 ^ k ≤ n) : bl n = k + bl (n / 2 ^ k) := by
  have hk : 0 < 2 ^ k := Nat.two_pow_pos k
  have h1 : bl n ≤ k + bl (n / 2 ^ k) := by
    rw [bl_le, Nat.pow_add, Nat.mul_comm]
    exact (Nat.div_lt_iff_lt_mul hk).1 (lt_bl _)
  have h0 : 0 < n / 2 ^ k := Nat.div_pos h hk
  have h2 : bl (n / 2 ^ k) - 1 < bl (n / 2 ^ k) := by
    have : 0 < bl (n / 2 ^ k) := bl_lt.2 h0
    omega
  have h3 : 2 ^ (bl (n / 2 ^ k) - 1) ≤ n / 2 ^ k := bl_lt.1 h2
  have h4 : 2 ^ (k + (bl (n / 2 ^ k) - 1)) ≤ n := by
    rw [Nat.pow_add, Nat.mul_comm]
    exact (Nat.le_div_iff_mul_le hk).1 h3
  have h5 := bl_lt.2 h4
  omega
theorem top_digit {a : Nat} (h : 0 < (lim a).length) : dig a ((lim a).length - 1) = a / B ^ ((lim a).length - 1) ∧ 0 < a / B ^ ((lim a).length - 1) := by
  have hne := ln_pos.1 h
  refine ⟨?_, Nat.div_pos (le_ln hne) (Nat.pow_pos B_pos)⟩
  rw [dig, Nat.mod_eq_of_lt]
  rw [Nat.div_lt_iff_lt_mul (Nat.pow_pos B_pos), Nat.mul_comm, ← Nat.pow_succ]
  have := ln_lt a
  rwa [show ((lim a).length - 1).succ = (lim a).length by omega]
theorem bl_top {a : Nat} (h : 0 < (lim a).length) : bl a = 32 * ((lim a).length - 1) + bl (dig a ((lim a).length - 1)) := by
  rw [(top_digit h).1, B_pow]
  exact bl_div (by rw [← B_pow]; exact le_ln (ln_pos.1 h))
theorem bl_le_ln (a : Nat) : bl a ≤ 32 * (lim a).length := by rw [bl_le, ← B_pow]; exact ln_lt a
theorem shr_digit {m r i : Nat} (hr : r < 32) : (dig m i + dig m (i + 1) * 2 ^ 32) / 2 ^ r % 4294967296 = dig (m / 2 ^ r) i := by
  have hB : (2 : Nat) ^ 32 = B := rfl
  rw [hB, dig, dig, dig, Nat.div_div_eq_div_mul, Nat.mul_comm (2 ^ r), ← Nat.div_div_eq_div_mul, Nat.pow_succ, ← Nat.div_div_eq_div_mul]
  generalize m / B ^ i = t
  rw [Nat.mul_comm _ B, ← Nat.mod_mul]
  have h1 : B * B = 2 ^ r * (2 ^ (32 - r) * B) := by
    rw [← Nat.mul_assoc, ← Nat.pow_add, show r + (32 - r) = 32 by omega]; rfl
  rw [h1]
  have h2 : t % (2 ^ r * (2 ^ (32 - r) * B)) / 2 ^ r = t / 2 ^ r % (2 ^ (32 - r) * B) := by
    rw [Nat.mod_mul, Nat.add_mul_div_left _ _ (Nat.two_pow_pos r), Nat.div_eq_of_lt (Nat.mod_lt _ (Nat.two_pow_pos r)), Nat.zero_add]
  rw [h2]
  exact Nat.mod_mul_left_mod _ _ _
theorem dig_add (a q i : Nat) : dig a (i + q) = dig (a / B ^ q) i := by
  rw [dig, dig, Nat.div_div_eq_div_mul, ← Nat.pow_add, Nat.add_comm]
theorem div_split (a n : Nat) : a / 2 ^ n = a / B ^ (n / 32) / 2 ^ (n % 32) := by
  rw [Nat.div_div_eq_div_mul, ← two_pow_split]
theorem shr_step {a i n L : Nat} {ys : List Nat} (hu : U32 ys) (hl : ys.length = L) (hi : i < ys.length) (hv : val (ys.take i) = a / 2 ^ n % B ^ i) :
    U32 (ys.set i ((dig a (i + n / 32) + dig a (i + n / 32 + 1) * 2 ^ 32) / 2 ^ (n % 32) % 4294967296)) ∧ (ys.set i ((dig a (i + n / 32) + dig a (i + n / 32 + 1) * 2 ^ 32) / 2 ^ (n % 32) % 4294967296)).length = L ∧
      val ((ys.set i ((dig a (i + n / 32) + dig a (i + n / 32 + 1) * 2 ^ 32) / 2 ^ (n % 32) % 4294967296)).take (i + 1)) = a / 2 ^ n % B ^ (i + 1) := by
  refine ⟨hu.set (Nat.mod_lt _ (by decide)), by simpa using hl, ?_⟩
  rw [val_take_set hi, hv, mod_succ]
  congr 2
  rw [show i + n / 32 + 1 = (i + 1) + n / 32 by omega, dig_add, dig_add, shr_digit (Nat.mod_lt _ (by decide)), ← div_split]
theorem shr_end {a n : Nat} {ys : List Nat} (hq : n / 32 ≤ (lim a).length) (hl : ys.length = (lim a).length - n / 32) (hv : val (ys.take ((lim a).length - n / 32)) = a / 2 ^ n % B ^ ((lim a).length - n / 32)) : val ys = a / 2 ^ n := by
  rw [List.take_of_length_le (by omega), Nat.mod_eq_of_lt] at hv
  · exact hv
  rw [div_split]
  refine Nat.lt_of_le_of_lt (Nat.div_le_self _ _) ?_
  rw [Nat.div_lt_iff_lt_mul (Nat.pow_pos B_pos), ← Nat.pow_add, show (lim a).length - n / 32 + n / 32 = (lim a).length by omega]
  exact ln_lt a
theorem tab_size {s : ByteArray} {f : Nat → Nat} {N : Nat} (hs : s.data.toList.map (·.toNat) = (List.range N).map f) : s.size = N := by
  have h := congrArg List.length hs
  rw [List.length_map, List.length_map, List.length_range, Array.length_toList] at h
  exact h
theorem tab_lt {s : ByteArray} {f : Nat → Nat} {N : Nat} (hs : s.data.toList.map (·.toNat) = (List.range N).map f) {i : Int} {n : Nat} (hi : i = (n : Int)) (hn : n < N) : i.toNat < s.size := by
  rw [tab_size hs, hi]; simpa using hn
theorem tab_get {s : ByteArray} {f : Nat → Nat} {N : Nat} (hs : s.data.toList.map (·.toNat) = (List.range N).map f) {i : Int} {n : Nat} (hi : i = (n : Int)) (hn : n < N) (h1 : i.toNat < s.size) : ((s[i.toNat]'h1).toNat : Int) = ((f n : Nat) : Int) := by
  subst hi
  have h2 : (s.data.toList.map (·.toNat))[n]? = ((List.range N).map f)[n]? := by rw [hs]
  have h3 : n < s.data.size := by simpa using h1
  simp [hn] at h2
  obtain ⟨u, h5, h6⟩ := h2
  have h4 : s[(n : Int).toNat]'h1 = s.data[n]'h3 := rfl
  rw [Array.getElem?_eq_getElem h3] at h5
  injection h5 with h5
  rw [h4, h5, h6]
theorem bl8 (y : Nat) : bl (y % 256) ≤ 9223372036854775807 := by
  have h : bl (y % 256) ≤ 8 := bl_le.2 (Nat.mod_lt y (by decide))
  omega
end Go.V
set_option synthInstance.maxSize 100000
set_option synthInstance.maxHeartbeats 2000000
namespace Go.V
open Go.RowKit Go.Proofs
theorem nconv_u8 {n : Nat} : IntKind.u8.wrap (n : Int) = ((n % 256 : Nat) : Int) := by rw [IntKind.wrap_u8]; omega
theorem ZkJ (x : Nat) (hx : x < 4294967296) : PC C ZjA [.int .u32 (x : Int)] (fun o => o = .ret (.int .i64 (bl x : Nat))) := by
  refine PC.rn Zem ZiI ZiJ (rs := [.tmp 2]) (by rw [ZiK]) ?_
  refine ARun.seq (ARun.region ?_); refine zza ?_; refine AOps.nil (ARun.seq (ARun.seq (ARun.region ?_))); refine zzm ?_; refine zzi ?_; refine AOps.nil ?_
  refine ARun.ite rfl (fun h => ?_) (fun h => ?_)
  · skip
    have e1 : bl x = 16 + bl (x / 2 ^ 16) := bl_div (by omega)
    refine ARun.seq (ARun.region ?_); refine zzm ?_
    refine y_op rfl (q_shr rfl rfl (by omega) (nshr (s := 16) rfl (by decide))) ?_
    refine zza ?_; refine AOps.nil (ARun.region ?_); refine zza ?_; refine AOps.nil (ARun.seq (ARun.seq (ARun.region ?_))); refine zzm ?_; refine zzi ?_; refine AOps.nil ?_
    refine ARun.ite rfl (fun h2 => ?_) (fun h2 => ?_)
    · skip
      have e2 : bl (x / 2 ^ 16) = 8 + bl (x / 2 ^ 16 / 2 ^ 8) := bl_div (by omega)
      have e3 := @bl_le (x / 2 ^ 16 / 2 ^ 8) 8
      have e4 : x / 2 ^ 16 / 2 ^ 8 % 256 = x / 2 ^ 16 / 2 ^ 8 := by omega
      refine ARun.seq (ARun.region ?_); refine zzm ?_
      refine y_op rfl (q_shr rfl rfl (by omega) (nshr (s := 8) rfl (by decide))) ?_
      refine zza ?_; refine AOps.nil (ARun.region ?_); refine zzm ?_
      refine y_op rfl (q_add rfl rfl (IntWalk.i64_in _ (by omega))) ?_
      refine zza ?_; refine AOps.nil (ARun.seq (ARun.region ?_)); refine zzm ?_; refine zzm ?_
      refine y_op rfl (q_conv rfl rfl rfl nconv_u8) ?_
      refine y_op rfl (ZaW rfl rfl rfl (by omega) (tab_lt (f := bl) (N := 256) (by kernel_rfl) rfl (by omega)) (tab_get (f := bl) (N := 256) (by kernel_rfl) rfl (by omega) _)) ?_
      refine y_op rfl (q_conv rfl rfl rfl (nconv_i64 (bl8 _))) ?_
      refine y_op rfl (q_add rfl rfl (r := (bl x : Nat)) (by rw [e4, IntWalk.i64_in _ (by omega)]; omega)) ?_
      refine zza ?_; refine AOps.nil ?_
      refine ARun.ret ?_
      refine ⟨_, _, _, .tmp rfl .nil, .cons (.same _) .nil, rfl, ?_⟩
      rfl
    have e3 := @bl_le (x / 2 ^ 16) 8
    have e4 : x / 2 ^ 16 % 256 = x / 2 ^ 16 := by omega
    refine ARun.skip (ARun.seq (ARun.region ?_)); refine zzm ?_; refine zzm ?_
    refine y_op rfl (q_conv rfl rfl rfl nconv_u8) ?_
    refine y_op rfl (ZaW rfl rfl rfl (by omega) (tab_lt (f := bl) (N := 256) (by kernel_rfl) rfl (by omega)) (tab_get (f := bl) (N := 256) (by kernel_rfl) rfl (by omega) _)) ?_
    refine y_op rfl (q_conv rfl rfl rfl (nconv_i64 (bl8 _))) ?_
    refine y_op rfl (q_add rfl rfl (r := (bl x : Nat)) (by rw [e4, IntWalk.i64_in _ (by omega)]; omega)) ?_
    refine zza ?_; refine AOps.nil ?_
    refine ARun.ret ?_
    refine ⟨_, _, _, .tmp rfl .nil, .cons (.same _) .nil, rfl, ?_⟩
    rfl
  refine ARun.skip (ARun.seq (ARun.seq (ARun.region ?_))); refine zzm ?_; refine zzi ?_; refine AOps.nil ?_
  refine ARun.ite rfl (fun h2 => ?_) (fun h2 => ?_)
  · skip
    have e2 : bl x = 8 + bl (x / 2 ^ 8) := bl_div (by omega)
    have e3 := @bl_le (x / 2 ^ 8) 8
    have e4 : x / 2 ^ 8 % 256 = x / 2 ^ 8 := by omega
    refine ARun.seq (ARun.region ?_); refine zzm ?_
    refine y_op rfl (q_shr rfl rfl (by omega) (nshr (s := 8) rfl (by decide))) ?_
    refine zza ?_; refine AOps.nil (ARun.region ?_); refine zzm ?_
    refine y_op rfl (q_add rfl rfl (nadd1_i64 (by omega))) ?_
    refine zza ?_; refine AOps.nil (ARun.seq (ARun.region ?_)); refine zzm ?_; refine zzm ?_
    refine y_op rfl (q_conv rfl rfl rfl nconv_u8) ?_
    refine y_op rfl (ZaW rfl rfl rfl (by omega) (tab_lt (f := bl) (N := 256) (by kernel_rfl) rfl (by omega)) (tab_get (f := bl) (N := 256) (by kernel_rfl) rfl (by omega) _)) ?_
    refine y_op rfl (q_conv rfl rfl rfl (nconv_i64 (bl8 _))) ?_
    refine y_op rfl (q_add rfl rfl (r := (bl x : Nat)) (by rw [e4, IntWalk.i64_in _ (by omega)]; omega)) ?_
    refine zza ?_; refine AOps.nil ?_
    refine ARun.ret ?_
    refine ⟨_, _, _, .tmp rfl .nil, .cons (.same _) .nil, rfl, ?_⟩
    rfl
  have e3 := @bl_le x 8
  have e4 : x % 256 = x := by omega
  refine ARun.skip (ARun.seq (ARun.region ?_)); refine zzm ?_; refine zzm ?_
  refine y_op rfl (q_conv rfl rfl rfl nconv_u8) ?_
  refine y_op rfl (ZaW rfl rfl rfl (by omega) (tab_lt (f := bl) (N := 256) (by kernel_rfl) rfl (by omega)) (tab_get (f := bl) (N := 256) (by kernel_rfl) rfl (by omega) _)) ?_
  refine y_op rfl (q_conv rfl rfl rfl (nconv_i64 (bl8 _))) ?_
  refine y_op rfl (q_add rfl rfl (r := (bl x : Nat)) (by rw [e4, IntWalk.i64_in _ (by omega)]; omega)) ?_
  refine zza ?_; refine AOps.nil ?_
  refine ARun.ret ?_
  refine ⟨_, _, _, .tmp rfl .nil, .cons (.same _) .nil, rfl, ?_⟩
  rfl
theorem Zd3 (a : Nat) (ha : (lim a).length ≤ 1099511627776) : PC C Zfs [numD a] (fun o => o = .ret (.int .i64 (bl a : Nat))) := by
  refine PC.rn Zb8 ZeE ZeF (rs := [.tmp 2]) (by rw [ZeG]) ?_
  have hb := bl_le_ln a
  refine ARun.seq (ARun.region ?_); refine zza ?_; refine AOps.nil (ARun.seq (ARun.seq (ARun.region ?_))); refine zzm ?_; refine zzN ?_; refine zzi ?_; refine AOps.nil ?_
  refine ARun.ite rfl (fun h => ?_) (fun h => ?_)
  · skip
    refine ARun.seq (ARun.region ?_); refine zza ?_; refine AOps.nil ?_
    refine ARun.ret ?_
    refine ⟨_, _, _, .tmp rfl .nil, .cons (.same _) .nil, rfl, ?_⟩
    have : bl a = 0 := by omega
    rw [this]
    rfl
  have e := bl_top (a := a) (by omega)
  refine ARun.skip (ARun.seq (ARun.region ?_)); refine zzm ?_; refine zzN ?_
  refine y_op rfl (q_sub rfl rfl (nsub1_i64 (by omega) (by omega))) ?_
  refine y_op rfl (q_mul rfl rfl (nmul_i64 (m := 32) (by omega))) ?_
  refine zzm ?_; refine zzm ?_; refine zzN ?_
  refine y_op rfl (q_sub rfl rfl (nsub1_i64 (by omega) (by omega))) ?_
  refine y_op rfl (Zag rfl rfl rfl rfl (by omega) (by omega) (nts_ne (by omega)) (drop_nat rfl)) ?_
  refine y_op rfl (q_load rfl rfl rfl (lim_load (by omega))) ?_
  refine zzc rfl rfl (ZkJ _ (dig_lt _ _)) ?_
  refine y_op rfl (q_add rfl rfl (r := (bl a : Nat)) (by rw [IntWalk.i64_in _ (by omega)]; omega)) ?_
  refine zza ?_; refine AOps.nil ?_
  refine ARun.ret ?_
  refine ⟨_, _, _, .tmp rfl .nil, .cons (.same _) .nil, rfl, ?_⟩
  rfl
end Go.V
set_option synthInstance.maxSize 100000
set_option synthInstance.maxHeartbeats 2000000
namespace Go.V
open Go.RowKit Go.Proofs
theorem Zh0 (a n : Nat) (ha : (lim a).length ≤ 1099511627776) (hn : n ≤ 9223372036854775807) : PC C ZgY [numD a, .int .i64 (n : Int)] (fun o => o = .ret (numD (a / 2 ^ n))) := by
  refine PC.rn ZcI Zf2 Zf3 (rs := [.tmp 4]) (by rw [Zf4]) ?_
  have hr : n % 32 < 32 := Nat.mod_lt _ (by decide)
  have hb := bl_le_ln a
  refine ARun.seq (ARun.region ?_); refine zza ?_; refine AOps.nil (ARun.seq (ARun.seq (ARun.region ?_))); refine zzm ?_; refine zzm ?_
  refine zzc rfl rfl (Zd3 a ha) ?_
  refine zzi ?_; refine AOps.nil ?_
  refine ARun.ite rfl (fun h => ?_) (fun h => ?_)
  · skip
    refine ARun.seq (ARun.region ?_); refine zza ?_; refine AOps.nil ?_
    refine ARun.ret ?_
    refine ⟨_, _, _, .tmp rfl .nil, .cons .nil .nil, rfl, ?_⟩
    have : a / 2 ^ n = 0 := Nat.div_eq_of_lt (bl_le.1 (by omega))
    rw [this, numD, lim_zero]
    rfl
  refine ARun.skip (ARun.seq (ARun.region ?_)); refine zzm ?_; refine zzN ?_; refine zzm ?_
  refine y_op rfl (q_quo rfl rfl (by omega) (nquo_i64 (n := 32) rfl (by omega))) ?_
  refine y_op rfl (q_sub rfl rfl (nsub_i64 (by omega) (by omega))) ?_
  refine y_new rfl (ZaH rfl rfl rfl rfl rfl rfl rfl (by omega) (by rw [maxLen_eq]; omega) (zeros_nts _)) ?_
  refine zza ?_; refine AOps.nil (ARun.seq (ARun.seq (ARun.region ?_))); refine zzm ?_
  refine y_op rfl (ZbG rfl rfl rfl) ?_
  refine zzm ?_; refine AOps.nil (ARun.block ?_)
  refine ARun.loopI (S := Nat × List Nat) (fun σ : Nat × List Nat => [(6, .any), (7, .any), (21, .any), (22, .any), (23, .any), (24, .any), (25, .any), (26, .any), (27, .any), (28, .any), (29, .any), (30, .any), (31, .any), (32, .any), (33, .any), (34, .any), (35, .any), (36, .any), (37, .any), (38, .any), (39, .any), (40, .any), (41, .any), (42, .any), (43, .any), (44, .any), (45, .any), (46, .any), (20, .int .i64 (σ.1 : Int))]) (fun σ : Nat × List Nat => [some ⟨nts .u32 σ.2, Zav, 1, true, none⟩]) (fun σ : Nat × List Nat => U32 σ.2 ∧ σ.2.length = (lim a).length - n / 32 ∧ σ.1 ≤ σ.2.length ∧ val (σ.2.take σ.1) = a / 2 ^ n % B ^ σ.1) (fun σ : Nat × List Nat => (lim a).length - n / 32 - σ.1) ((0, List.replicate ((lim a).length - n / 32) 0)) ?_ ?_ ?_ ?_
  · exact ⟨U32.replicate, by simp, by simp, by simp [val, Nat.mod_one]⟩
  · (repeat' first | exact envLe_nil | apply envLe_any | apply envLe_same)
  · rfl
  rintro ⟨i, ys⟩ hinv ih
  dsimp only at hinv ih ⊢
  obtain ⟨hu, hl, hi, hv⟩ := hinv
  refine ARun.seq (ARun.region ?_); refine zzi ?_; refine AOps.nil (ARun.seq ?_)
  refine ARun.ite rfl (fun h2 => ?_) (fun h2 => ?_)
  · skip
    have d1 := dig_lt a (i + n / 32)
    have d2 := dig_lt a (i + n / 32 + 1)
    refine ARun.skip (ARun.seq (ARun.block (ARun.seq (ARun.region ?_)))); refine zzm ?_; refine zza ?_; refine AOps.nil (ARun.seq (ARun.region ?_)); refine zzm ?_; refine zzm ?_; refine zzm ?_
    refine y_op rfl (q_quo rfl rfl (by omega) (nquo_i64 (n := 32) rfl (by omega))) ?_
    refine y_op rfl (q_add rfl rfl (nadd_i64 (by omega))) ?_
    refine zzc rfl rfl (Zbu a (i + n / 32)) ?_
    refine zzm ?_; refine zzm ?_; refine zzm ?_
    refine y_op rfl (q_quo rfl rfl (by omega) (nquo_i64 (n := 32) rfl (by omega))) ?_
    refine y_op rfl (q_add rfl rfl (nadd_i64 (by omega))) ?_
    refine y_op rfl (q_add rfl rfl (nadd1_i64 (by omega))) ?_
    refine zzc rfl rfl (Zbu a (i + n / 32 + 1)) ?_
    refine y_op rfl (q_shl rfl rfl (by omega) (nshl_u64 (s := 32) rfl (by omega) (by omega))) ?_
    refine y_op rfl (q_orR rfl rfl (nor_add (by omega) (by omega))) ?_
    refine zza ?_; refine AOps.nil (ARun.region ?_); refine zzm ?_; refine zzm ?_; refine zzm ?_; refine zzm ?_
    refine y_op rfl (q_rem rfl rfl (by omega) (nrem (n := 32) rfl)) ?_
    refine y_op rfl (q_shr rfl rfl (by omega) (nshr rfl (by simp [IntKind.bits]; omega))) ?_
    refine y_op rfl (q_conv rfl rfl rfl nconv_u32) ?_
    refine y_op rfl (ZaD rfl rfl rfl rfl rfl (by omega) (by omega) (idx_nat rfl)) ?_
    refine y_new rfl (Zad rfl rfl rfl rfl rfl rfl (by simp; omega) nts_set) ?_
    refine AOps.nil (ARun.inBlock (ARun.region ?_))
    refine y_op rfl (q_add rfl rfl (nadd1_i64 (by omega))) ?_
    refine zzm ?_; refine AOps.nil ?_
    refine ARun.again (ih ((i + 1, ys.set i ((dig a (i + n / 32) + dig a (i + n / 32 + 1) * 2 ^ 32) / 2 ^ (n % 32) % 4294967296))) ?_ ?_) ?_ ?_
    · (obtain ⟨k1, k2, k3⟩ := shr_step (n := n) hu hl (by omega) hv; exact ⟨k1, k2, by dsimp only; omega, k3⟩)
    · (dsimp only; omega)
    · (repeat' first | exact envLe_nil | apply envLe_any | apply envLe_same)
    rfl
  have hin : i = (lim a).length - n / 32 := by omega
  subst hin
  refine ARun.exit rfl ?_
  refine ARun.seq (ARun.region ?_); refine zzm ?_
  refine y_new rfl (n_call rfl rfl (.cons (.row rfl (pures_nts _)) .nil) (ZbH hu hl) rfl) ?_
  refine zza ?_; refine AOps.nil ?_
  refine ARun.ret ?_
  refine ⟨_, _, _, .tmp rfl .nil, .cons (.same _) .nil, rfl, ?_⟩
  rw [shr_end (by omega) hl hv]
  rfl
end Go.V
/- PRODUCTS, pair by pair. -/
namespace Go.V
theorem dig_cons {x v p : Nat} (hx : x < B) : dig (x + B * v) (p + 1) = dig v p := by
  rw [dig, dig, Nat.pow_succ, Nat.mul_comm (B ^ p) B, ← Nat.div_div_eq_div_mul, Nat.add_mul_div_left _ _ B_pos, Nat.div_eq_of_lt hx, Nat.zero_add]
theorem dig_val {xs : List Nat} (hu : U32 xs) (p : Nat) : xs.getD p 0 = dig (val xs) p := by
  induction xs generalizing p with
  | nil => simp [val, dig]
  | cons x xs ih =>
    cases p with
    | zero =>
      rw [val, dig, Nat.pow_zero, Nat.div_one, Nat.add_mul_mod_self_left, Nat.mod_eq_of_lt hu.head]
      rfl
    | succ p =>
      rw [val, dig_cons hu.head, ← ih hu.tail]
      simp [List.getD_eq_getElem?_getD]
theorem getD_take {xs : List Nat} {p k : Nat} (h : p < k) : (xs.take k).getD p 0 = xs.getD p 0 := by
  rw [List.getD_eq_getElem?_getD, List.getD_eq_getElem?_getD, List.getElem?_take, if_pos h]
theorem getD_set_ne {xs : List Nat} {p k v : Nat} (h : k ≠ p) : (xs.set k v).getD p 0 = xs.getD p 0 := by
  rw [List.getD_eq_getElem?_getD, List.getD_eq_getElem?_getD, List.getElem?_set_ne h]
theorem mul_bound {x y : Nat} (hx : x < 4294967296) (hy : y < 4294967296) : x * y ≤ 18446744065119617025 := Nat.mul_le_mul (show x ≤ 4294967295 by omega) (show y ≤ 4294967295 by omega)
theorem sch_step {i j c x W b n : Nat} {ys : List Nat} (hu : U32 ys) (hl : ys.length = n) (hi : i + j < ys.length) (hx : x < 4294967296) (hc : c < 4294967296) (hd : ys.getD (i + j) 0 = dig W (i + j))
    (hv : val (ys.take (i + j)) + B ^ (i + j) * c = W % B ^ (i + j) + B ^ i * (x * (b % B ^ j))) :
    U32 (ys.set (i + j) ((c + (x * dig b j + dig W (i + j))) % 4294967296)) ∧ (ys.set (i + j) ((c + (x * dig b j + dig W (i + j))) % 4294967296)).length = n ∧ (c + (x * dig b j + dig W (i + j))) / 4294967296 < 4294967296 ∧
      val ((ys.set (i + j) ((c + (x * dig b j + dig W (i + j))) % 4294967296)).take (i + (j + 1))) + B ^ (i + (j + 1)) * ((c + (x * dig b j + dig W (i + j))) / 4294967296) = W % B ^ (i + (j + 1)) + B ^ i * (x * (b % B ^ (j + 1))) := by
  have d1 := dig_lt W (i + j)
  have d2 := mul_bound hx (dig_lt b j)
  refine ⟨hu.set (Nat.mod_lt _ (by decide)), by simpa using hl, by omega, ?_⟩
  rw [← Nat.add_assoc, val_take_set hi, mod_succ, mod_succ, Nat.pow_succ, Nat.mul_assoc]
  generalize hs : c + (x * dig b j + dig W (i + j)) = s
  have h1 : B ^ (i + j) * (s % 4294967296) + B ^ (i + j) * (B * (s / 4294967296)) = B ^ (i + j) * s := by
    rw [← Nat.mul_add]; congr 1; exact Nat.mod_add_div s B
  have h2 : B ^ (i + j) * s = B ^ (i + j) * c + (B ^ (i + j) * (x * dig b j) + B ^ (i + j) * dig W (i + j)) := by rw [← hs, Nat.mul_add, Nat.mul_add]
  have h3 : B ^ i * (x * (b % B ^ j + B ^ j * dig b j)) = B ^ i * (x * (b % B ^ j)) + B ^ (i + j) * (x * dig b j) := by
    rw [Nat.mul_add, Nat.mul_add, Nat.pow_add]
    congr 1
    simp only [Nat.mul_comm, Nat.mul_left_comm, Nat.mul_assoc]
  omega
theorem sch_row {a b i c W n : Nat} {ys : List Nat} (hu : U32 ys) (hl : ys.length = n) (hi : i + (lim b).length < ys.length) (hc : c < 4294967296) (hW : W = a % B ^ i * b) (hv : val (ys.take (i + (lim b).length)) + B ^ (i + (lim b).length) * c = W % B ^ (i + (lim b).length) + B ^ i * (dig a i * (b % B ^ (lim b).length))) :
    U32 (ys.set (i + (lim b).length) c) ∧ (ys.set (i + (lim b).length) c).length = n ∧ val ((ys.set (i + (lim b).length) c).take (i + 1 + (lim b).length)) = a % B ^ (i + 1) * b := by
  refine ⟨hu.set hc, by simpa using hl, ?_⟩
  rw [show i + 1 + (lim b).length = i + (lim b).length + 1 by omega, val_take_set hi, hv, mod_of_ln (Nat.le_refl _), mod_succ, Nat.add_mul, hW]
  rw [Nat.mod_eq_of_lt]
  · rw [Nat.mul_assoc]
  rw [Nat.pow_add]
  exact Nat.mul_lt_mul_of_lt_of_le (Nat.mod_lt _ (Nat.pow_pos B_pos)) (Nat.le_of_lt (ln_lt b)) (Nat.pow_pos B_pos)
theorem sch_dig {ys : List Nat} (hu : U32 ys) {k p W : Nat} (hv : val (ys.take k) = W) (hp : p < k) : ys.getD p 0 = dig W p := by
  rw [← getD_take hp, dig_val (hu.take k), hv]
end Go.V
namespace Go.V
theorem val_take_mod {ys : List Nat} (hu : U32 ys) (i k : Nat) (h : i ≤ k) : val (ys.take i) = val (ys.take k) % B ^ i := by
  have e : ys.take k = ys.take i ++ (ys.take k).drop i := by
    have := List.take_append_drop i (ys.take k)
    rw [List.take_take, Nat.min_eq_left h] at this
    exact this.symm
  rw [e, val_append]
  by_cases hi : i ≤ ys.length
  · rw [List.length_take, Nat.min_eq_left hi, Nat.add_mul_mod_self_left, Nat.mod_eq_of_lt]
    have := val_lt (hu.take i)
    rwa [List.length_take, Nat.min_eq_left hi] at this
  have h1 : (ys.take k).drop i = [] := by
    rw [List.drop_eq_nil_iff, List.length_take]; omega
  rw [h1]
  simp only [val, Nat.mul_zero, Nat.add_zero]
  refine (Nat.mod_eq_of_lt (Nat.lt_of_lt_of_le (val_lt (hu.take i)) (Nat.pow_le_pow_right B_pos ?_))).symm
  rw [List.length_take]; omega
end Go.V
