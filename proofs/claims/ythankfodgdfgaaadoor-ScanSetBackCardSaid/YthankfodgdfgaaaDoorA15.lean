/- A part of the proof: abstract values, rules for the steps of the program's form, and contracts of its functions, each proved; no condition. -/
import Derived.Test.YthankfodgdfgaaaDoorA14
import Derived.Lib.LaidIn
import Derived.JoinedCond
import Derived.Deep.DeepHandedRow
set_option linter.unusedVariables false
set_option linter.unusedSimpArgs false
set_option linter.unnecessarySimpa false
/- THE ROWS OF SCAN SPECIFICATIONS: what a set and what a list of pieces read as. -/
set_option maxRecDepth 100000
namespace Go.V
open Go.RowKit Go.Proofs Go.ChangeShapes Go.WideShapes Go.ChangeAt Go.ChangeMaps Go.Proofs.YthankfodgdfgaaaDoor
section
variable {H : Type} {enc : TypeId × Value → H} {W : World}
theorem rng_u64 {n : Int} (h : (Lit.int .u64 n).wf = true) : 0 ≤ n ∧ n < 18446744073709551616 := by
  simp [Lit.wf, IntKind.min, IntKind.max, IntKind.signed, IntKind.bits] at h; omega
theorem rng_u8 {n : Int} (h : (Lit.int .u8 n).wf = true) : 0 ≤ n ∧ n < 256 := by
  simp [Lit.wf, IntKind.min, IntKind.max, IntKind.signed, IntKind.bits] at h; omega
theorem set_cells {base : Nat} {sp : Nat → Bool} {held : Bool} {fuel : Nat} {c0 c1 c2 c3 : Value} {x : DataW H × List MemPlace} (h : DataW.trod enc Tryd.prog W base sp held fuel 28 [c0, c1, c2, c3] = some x) :
    ∃ S : Nat → Bool, c0 = .int .u64 ((sw S 0 : Nat) : Int) ∧ c1 = .int .u64 ((sw S 1 : Nat) : Int) ∧ c2 = .int .u64 ((sw S 2 : Nat) : Int) ∧ c3 = .int .u64 ((sw S 3 : Nat) : Int) := by
  obtain ⟨y0, y1, y2, y3, n, _, h0, h1, h2, h3⟩ := trod_array4 Tryd.underlying28 (by kernel_rfl) h
  obtain ⟨n0, e0, _, w0⟩ := DataW.trod_int Tryd.underlying27 h0
  obtain ⟨n1, e1, _, w1⟩ := DataW.trod_int Tryd.underlying27 h1
  obtain ⟨n2, e2, _, w2⟩ := DataW.trod_int Tryd.underlying27 h2
  obtain ⟨n3, e3, _, w3⟩ := DataW.trod_int Tryd.underlying27 h3
  injection e0 with e0; injection e1 with e1; injection e2 with e2; injection e3 with e3
  subst e0; subst e1; subst e2; subst e3
  have g0 := rng_u64 w0; have g1 := rng_u64 w1; have g2 := rng_u64 w2; have g3 := rng_u64 w3
  have hw := ofW_sw (w0 := n0.toNat) (w1 := n1.toNat) (w2 := n2.toNat) (w3 := n3.toNat) (by omega) (by omega) (by omega) (by omega)
  rw [show ((n0.toNat : Nat) : Int) = n0 by omega, show ((n1.toNat : Nat) : Int) = n1 by omega, show ((n2.toNat : Nat) : Int) = n2 by omega, show ((n3.toNat : Nat) : Int) = n3 by omega] at hw
  injection hw with a0 hw; injection hw with a1 hw; injection hw with a2 hw; injection hw with a3 hw
  injection a0 with _ a0; injection a1 with _ a1; injection a2 with _ a2; injection a3 with _ a3
  exact ⟨_, by rw [a0], by rw [a1], by rw [a2], by rw [a3]⟩
theorem vr_set {base : Nat} {v : Value} {d : DataW H} {p : List MemPlace} (hv : Value.okWide Tryd.prog W .any base 28 v) (h : DataW.Trod enc Tryd.prog W 0 (fun _ => true) true 28 v d p) :
    ∃ S : Nat → Bool, VR W (fun _ => False) [] [] (setD S) v := by
  simp only [Value.okWide, Tryd.underlying28] at hv
  obtain ⟨cs, rfl, hsz, _⟩ := hv
  have c28 : Tryd.prog.cellsOf 28 = 4 := by kernel_rfl
  rw [c28] at hsz
  obtain ⟨fuel, hf⟩ := h
  obtain ⟨l⟩ := cs
  match l, hsz with
  | [c0, c1, c2, c3], _ =>
    obtain ⟨S, rfl, rfl, rfl, rfl⟩ := set_cells hf
    refine ⟨S, ?_⟩
    simp only [VR, VRs]
    exact ⟨_, rfl, _, _, rfl, rfl, _, _, rfl, rfl, _, _, rfl, rfl, _, _, rfl, rfl, rfl⟩
theorem no_agg {base : Nat} {v : Value} (h : Value.okWide Tryd.prog W .any base 23 v) : ∀ cs, v ≠ .agg cs := by
  simp only [Value.okWide, Tryd.underlying23, Cell.okWide] at h
  intro cs e
  subst e
  simp [Cell.ok] at h
def pcVs (p : Pc) : List Value := [.string p.lit, .int .i64 p.arg, .int .i64 p.wid, .int .i64 p.len, .int .u8 (p.conv : Int), .int .u64 ((sw p.set 0 : Nat) : Int), .int .u64 ((sw p.set 1 : Nat) : Int), .int .u64 ((sw p.set 2 : Nat) : Int), .int .u64 ((sw p.set 3 : Nat) : Int)]
def PcK (p : Pc) : Prop := p.lit.size ≤ maxLen ∧ p.conv < 256 ∧ (Lit.int .i64 p.arg).wf = true ∧ (Lit.int .i64 p.wid).wf = true ∧ (Lit.int .i64 p.len).wf = true
theorem ZiB {base : Nat} {sp : Nat → Bool} {held : Bool} {fuel : Nat} {cs : List Value} {x : DataW H × List MemPlace} (h : DataW.trod enc Tryd.prog W base sp held fuel 46 cs = some x) :
    ∃ p : Pc, cs = pcVs p ∧ PcK p ∧ ∃ r, x.1 = .agg (.lit (.string p.lit.data.toList) :: r) := by
  obtain ⟨xs, n, _, hx, hl, hlen, hall⟩ := DataW.trod_struct Tryd.underlying46 h
  have c46 : Tryd.prog.cellsOf 46 = 9 := by kernel_rfl
  have c9 : Tryd.prog.cellsOf 9 = 1 := by kernel_rfl
  have c3 : Tryd.prog.cellsOf 3 = 1 := by kernel_rfl
  have c5 : Tryd.prog.cellsOf 5 = 1 := by kernel_rfl
  have c28 : Tryd.prog.cellsOf 28 = 4 := by kernel_rfl
  rw [c46] at hl
  match cs, hl, xs, hlen with
  | [v0, v1, v2, v3, v4, v5, v6, v7, v8], _, [x0, x1, x2, x3, x4, x5], _ =>
    have h0 : DataW.trod enc Tryd.prog W base sp held n 9 ((([v0, v1, v2, v3, v4, v5, v6, v7, v8] : List Value).drop 0).take (Tryd.prog.cellsOf 9)) = some x0 := hall 0 _ rfl
    have h1 : DataW.trod enc Tryd.prog W base sp held n 3 ((([v0, v1, v2, v3, v4, v5, v6, v7, v8] : List Value).drop 1).take (Tryd.prog.cellsOf 3)) = some x1 := hall 1 _ rfl
    have h2 : DataW.trod enc Tryd.prog W base sp held n 3 ((([v0, v1, v2, v3, v4, v5, v6, v7, v8] : List Value).drop 2).take (Tryd.prog.cellsOf 3)) = some x2 := hall 2 _ rfl
    have h3 : DataW.trod enc Tryd.prog W base sp held n 3 ((([v0, v1, v2, v3, v4, v5, v6, v7, v8] : List Value).drop 3).take (Tryd.prog.cellsOf 3)) = some x3 := hall 3 _ rfl
    have h4 : DataW.trod enc Tryd.prog W base sp held n 5 ((([v0, v1, v2, v3, v4, v5, v6, v7, v8] : List Value).drop 4).take (Tryd.prog.cellsOf 5)) = some x4 := hall 4 _ rfl
    have h5 : DataW.trod enc Tryd.prog W base sp held n 28 ((([v0, v1, v2, v3, v4, v5, v6, v7, v8] : List Value).drop 5).take (Tryd.prog.cellsOf 28)) = some x5 := hall 5 _ rfl
    rw [c9] at h0
    rw [c3] at h1 h2 h3
    rw [c5] at h4
    rw [c28] at h5
    obtain ⟨s, e0, d0, z0⟩ := DataW.trod_string Tryd.underlying9 h0
    obtain ⟨n1, e1, _, w1⟩ := DataW.trod_int Tryd.underlying3 h1
    obtain ⟨n2, e2, _, w2⟩ := DataW.trod_int Tryd.underlying3 h2
    obtain ⟨n3, e3, _, w3⟩ := DataW.trod_int Tryd.underlying3 h3
    obtain ⟨n4, e4, _, w4⟩ := DataW.trod_int Tryd.underlying5 h4
    obtain ⟨S, a0, a1, a2, a3⟩ := set_cells (c0 := v5) (c1 := v6) (c2 := v7) (c3 := v8) h5
    simp at e0 e1 e2 e3 e4
    subst e0; subst e1; subst e2; subst e3; subst e4; subst a0; subst a1; subst a2; subst a3
    have g4 := rng_u8 w4
    refine ⟨⟨s, n1, n2, n3, n4.toNat, S⟩, ?_, ⟨z0, by show n4.toNat < 256; omega, w1, w2, w3⟩, ?_⟩
    · unfold pcVs
      rw [show ((n4.toNat : Nat) : Int) = n4 by omega]
    rw [hx]
    have : x0.1 = .lit (.string s.data.toList) := by rw [d0]
    exact ⟨[x1.1, x2.1, x3.1, x4.1, x5.1], by rw [← this]; rfl⟩
theorem pcs_getp : ∀ (l : List Pc) (j : Nat) (d : D), (pcs l)[j]? = some d → ∃ i r p, j = i * 9 + r ∧ r < 9 ∧ l[i]? = some p ∧ p.cells[r]? = some d
  | [], j, d, h => by simp [pcs] at h
  | p :: l, j, d, h => by
    have h : (p.cells ++ pcs l)[j]? = some d := h
    by_cases hj : j < 9
    · rw [List.getElem?_append_left (by exact hj)] at h
      exact ⟨0, j, p, by omega, hj, rfl, h⟩
    rw [List.getElem?_append_right (by show 9 ≤ j; omega)] at h
    obtain ⟨i, r, q, h1, h2, h3, h4⟩ := pcs_getp l (j - 9) d h
    exact ⟨i + 1, r, q, by omega, h2, h3, h4⟩
theorem pc_vr (p : Pc) (r : Nat) (d : D) (h : p.cells[r]? = some d) : ∃ v, (pcVs p)[r]? = some v ∧ v.oneCell' = true ∧ VR W (fun _ => False) [] [] d v := by
  match r, h with
  | 0, h | 1, h | 2, h | 3, h | 4, h | 5, h | 6, h | 7, h | 8, h =>
    injection h with h; subst h
    exact ⟨_, rfl, rfl, by simp only [VR]⟩
  | r + 9, h => cases h
theorem vr_list {v : Value} {d : DataW H} {p : List MemPlace} (h : DataW.Trod enc Tryd.prog W 0 (fun _ => true) true 23 v d p) (hv : ∀ cs, v ≠ .agg cs) :
    ∃ l : List Pc, (∀ q ∈ l, PcK q) ∧ l.length ≤ maxLen ∧ VR W (fun _ => False) [] [] (slP l) v ∧ (d = .nil ∧ l = [] ∨ ∃ ds rest, d = .slice ds rest ∧ F2 (fun (q : Pc) (x : DataW H) => ∃ r, x = .agg (.lit (.string q.lit.data.toList) :: r)) l ds) := by
  obtain ⟨fuel, hf⟩ := h
  have hc : v.cells.toList = [v] := by cases v <;> first | rfl | exact absurd rfl (hv _)
  rw [hc] at hf
  rcases Go.Deep.open_slice Tryd.underlying23 hf with ⟨e, hx⟩ | ⟨a, len, cap, m, n, Df, Pl, e, hb, hl, hm, hmm, hx, hall⟩
  · injection e with e; subst e
    refine ⟨[], (fun _ h => by cases h), Nat.zero_le _, ?_, .inl ⟨by injection hx, rfl⟩⟩
    simp only [VR]
    exact ⟨none, 0, rfl, Nat.le_refl _, Nat.zero_le _, fun h => (h rfl).elim⟩
  injection e with e; subst e
  simp only [if_true] at hmm
  subst hmm
  have hch : ∀ i, i < len → ∃ q : Pc, PcK q ∧ W.cells? 0 (a.add (i * Tryd.prog.cellsOf 46)) (Tryd.prog.cellsOf 46) = some (pcVs q) ∧ ∃ r, Df i = .agg (.lit (.string q.lit.data.toList) :: r) := fun i hi => by
    obtain ⟨cs', g1, g2⟩ := hall i (by omega)
    obtain ⟨q, rfl, k, r, hr⟩ := ZiB g2
    exact ⟨q, k, g1, r, hr⟩
  have : ∃ f : Nat → Pc, ∀ i, i < len → PcK (f i) ∧ W.cells? 0 (a.add (i * Tryd.prog.cellsOf 46)) (Tryd.prog.cellsOf 46) = some (pcVs (f i)) ∧ ∃ r, Df i = .agg (.lit (.string (f i).lit.data.toList) :: r) := by
    refine ⟨fun i => if hi : i < len then (hch i hi).choose else pcZ, fun i hi => ?_⟩
    simp only [dif_pos hi]
    exact (hch i hi).choose_spec
  obtain ⟨f, hf'⟩ := this
  have c46 : Tryd.prog.cellsOf 46 = 9 := by kernel_rfl
  rw [c46] at hf'
  refine ⟨(List.range len).map f, ?_, by rw [List.length_map, List.length_range]; omega, ?_, .inr ⟨_, _, congrArg Prod.fst hx, ?_⟩⟩
  · intro q hq
    obtain ⟨i, hi, rfl⟩ := List.mem_map.1 hq
    exact (hf' i (List.mem_range.1 hi)).1
  · have hget : ∀ (j : Nat) (d : D), (pcs ((List.range len).map f))[j]? = some d → ∃ v, W.cell? (a.add (0 + j)) = some v ∧ v.oneCell' = true ∧ VR W (fun _ => False) [] [] d v := fun j d hd => by
      obtain ⟨i, r, p, rfl, hr, h3, h4⟩ := pcs_getp _ j d hd
      rw [List.getElem?_map, Option.map_eq_some_iff] at h3
      obtain ⟨i', h5, rfl⟩ := h3
      have hi : i < len := by
        have := (List.getElem?_eq_some_iff.1 h5).1
        rwa [List.length_range] at this
      rw [List.getElem?_range hi] at h5
      injection h5 with h5; subst h5
      obtain ⟨v, k1, k2, k3⟩ := pc_vr (W := W) (f i) r d h4
      have hcell := (World.cells?_some (hf' i hi).2.1).2.2 r hr
      refine ⟨v, ?_, k2, k3⟩
      rw [← k1, ← hcell, Nat.zero_add, Addr.add_add]
    simp only [VR]
    refine ⟨some a, m, by rw [List.length_map, List.length_range], by rw [List.length_map, List.length_range]; exact hl, hm, fun hne => ⟨a, rfl, ?_, fun h => h, VRL_mk hget⟩⟩
    cases hp : pcs ((List.range len).map f) with
    | nil => exact absurd hp hne
    | cons c cs =>
      obtain ⟨v, k, _⟩ := hget 0 c (by rw [hp]; rfl)
      exact cell_lt k
  have : ∀ (k : Nat) (xs : List Nat), (∀ i ∈ xs, i < len) → F2 (fun (q : Pc) (x : DataW H) => ∃ r, x = .agg (.lit (.string q.lit.data.toList) :: r)) (xs.map f) (xs.map Df) := by
    intro _ xs
    induction xs with
    | nil => intro _; exact .nil
    | cons i xs ih => intro h; exact .cons (hf' i (h i (by simp))).2.2 (ih fun j hj => h j (List.mem_cons_of_mem _ hj))
  exact this 0 _ fun i hi => List.mem_range.1 hi
end
end Go.V
/- A START THAT MEETS WHAT THE ROWS SAY OF THE TABLES: the map of rows laid by hand, the other tables by the kit's law. -/
set_option maxRecDepth 100000
namespace Go.V
open Go.RowKit Go.Proofs Go.ChangeShapes Go.WideShapes Go.ChangeAt Go.ChangeMaps Go.Proofs.YthankfodgdfgaaaDoor
def rowMap : Obj := .map (rowEs.zipIdx.map fun x => (⟨.int .u8 (x.1.1 : Int), .int .i64 (x.1.2 : Int), x.2⟩ : MapEntry)).toArray 20
def setRow (b : Nat) : Obj → Obj
  | .cells _ t frozen => .cells #[.map (some b)] t frozen
  | o => o
noncomputable def mapN (os : Os) : Nat := (World.settled Tryd.prog os).heap.size
noncomputable def mapW0 (os : Os) : World :=
  let w := World.holding Tryd.prog os ⟨#[rowMap], #[], []⟩
  { w with heap := w.heap.modify 0 (setRow (mapN os)) }
def great4 : List String := ["math/bits.deBruijn32tab", "math/bits.deBruijn64tab", "internal/strconv.uint64pow10", "soroban/scanspec.lengths"]
def laid5 : List (String × DataW Unit) := Rows.scanSetsRow.laid
noncomputable def mapW (os : Os) : World := (mapW0 os).layVars Tryd.prog (laid5.filter fun x => great4.contains x.1)
theorem mapW_os (os : Os) : (mapW os).os = os := by unfold mapW; rw [World.layVars_os]; rfl
theorem mapW_shaped (os : Os) : (mapW os).Shaped Tryd.prog := World.shaped_of_ZipB (by kernel_rfl) (by kernel_rfl)
theorem mapW_in (os : Os) : LaidIn Tryd.prog (mapW os) (laid5.filter fun x => !great4.contains x.1) [0, mapN os] :=
  LaidIn.of_run [0, mapN os] 8 (by kernel_rfl) (by kernel_rfl) (by kernel_rfl) (by kernel_rfl)
theorem mapW_laid (os : Os) : laidMet Tryd.prog laid5 (mapW os) :=
  laidMet_layVars (w0 := mapW0 os) great4 [0, mapN os] rfl (by kernel_rfl) (by kernel_rfl) (mapW_in os)
theorem mapW_met (os : Os) (args : Array Value) : laidMetH Tryd.prog Rows.scanSetsRow.laid ((mapW os).forCall (fun _ _ => 0) ⟨#[], args, []⟩).memory := by
  rw [MakeChecks.laidMetH_plain _ _ _ (by kernel_rfl)]
  exact (mapW_laid os).of_heap (by simp [World.memory, World.forCall, Input.heap])
end Go.V
/- The closed facts of a row, one by one: what holds of the program itself, and how they are joined; no condition. -/
set_option maxRecDepth 100000
namespace Go.V
open Go.Proofs
theorem and_t {a b : Bool} (h1 : a = true) (h2 : b = true) : (a && b) = true := by rw [h1, h2]; rfl
theorem joined_of {P : Program} {f : FuncId} {fn : Func} {s : ChangeSpec} {c : OpenClaim}
    (k1 : (c.wf (OpenSpec.ofChange s)) = true)
    (k2 : (laidOutB P) = true)
    (k3 : (mapsRowed P) = true)
    (k4 : (fn.params.all (P.readableRec ·)) = true)
    (k5 : (namedTie P c.named s.vars) = true)
    (k6 : (c.stops == []) = true)
    (k7 : (P.stops == []) = true)
    (k8 : (c.knobs == []) = true)
    (k9 : (P.stopKnobs == []) = true)
    (k10 : (c.inPlace == P.inPlace f) = true)
    (k11 : (c.unfollowed == P.unfollowed f) = true)
    (k12 : (c.recurses == P.recurses f) = true)
    (k13 : (c.named == P.varsNamed f) = true)
    (k14 : ((c.maps == (fn.params.toList ++ s.plain.varTypes P).any (P.mapsRec ·))) = true)
    (k15 : ((c.ifaces == (fn.params.toList ++ s.plain.varTypes P).any (P.ifacesRec ·))) = true)
    (k16 : (c.mapsOut == P.mapsAmong fn.resultTypes.toList) = true)
    (k17 : ((c.loops == (fn.params.toList ++ s.plain.varTypes P).any (P.loopsFrom ·))) = true)
    (k18 : ((c.wideKeys == (fn.params.toList ++ s.plain.varTypes P ++ fn.resultTypes.toList).any (P.wideKeysFrom ·))) = true)
    (k19 : (s.vars.all (P.varReadable ·)) = true)
    (k20 : (fn.resultTypes.all (fun t => P.readableRec t && decide (t < P.types.size))) = true)
    (k21 : ((c.ifacesOut == fn.resultTypes.toList.any (P.ifacesRec ·))) = true)
    (k22 : ((c.loopsOut == fn.resultTypes.toList.any (P.loopsFrom ·))) = true)
    (k23 : (c.plainKeys == P.plainKeys) = true)
    (k24 : (c.shortTexts.isNone) = true)
    (k25 : (P.stopsHeard) = true)
    (k26 : (P.mayEnter) = true)
    (k27 : (c.lifted == P.liftsFinal) = true)
    (k28 : (P.make == some c.make) = true)
    (k29 : ((c.kinds == (if c.domain.isEmpty then [] else fn.params.toList.map fun t => match P.underlying t with | some (.int k) => some k | _ => none))) = true)
    (k30 : (c.pinned == c.pinnedBy) = true)
    (k31 : ((c.veiled == (fn.params.toList ++ s.plain.varTypes P ++ fn.resultTypes.toList).any (P.veiledRec ·))) = true)
    (k32 : (c.veiledFits P fn.params.toList (fn.params.toList ++ s.plain.varTypes P ++ fn.resultTypes.toList)) = true)
    : joinedFacts P f fn s c = true := by
  unfold joinedFacts
  exact and_t (and_t (and_t (and_t (and_t (and_t (and_t (and_t (and_t (and_t (and_t (and_t (and_t (and_t (and_t (and_t (and_t (and_t (and_t (and_t (and_t (and_t (and_t (and_t (and_t (and_t (and_t (and_t (and_t (and_t (and_t k1 k2) k3) k4) k5) k6) k7) k8) k9) k10) k11) k12) k13) k14) k15) k16) k17) k18) k19) k20) k21) k22) k23) k24) k25) k26) k27) k28) k29) k30) k31) k32
theorem z_maps : mapsRowed Tryd.prog = true := by kernel_rfl
theorem z_plainKeys : (Go.Proofs.YthankfodgdfgaaaDoor.Rows.scanSetsRow.plainKeys == Tryd.prog.plainKeys) = true := by kernel_rfl
theorem z_stopsHeard : Tryd.prog.stopsHeard = true := by kernel_rfl
theorem z_lifts : (Go.Proofs.YthankfodgdfgaaaDoor.Rows.scanSetsRow.lifted == Tryd.prog.liftsFinal) = true := by kernel_rfl
theorem z_make : (Tryd.prog.make == some Go.Proofs.YthankfodgdfgaaaDoor.Rows.scanSetsRow.make) = true := by kernel_rfl
theorem z_main : YthankfodgdfgaaaDoor.Tryd.pinned.checked.prog.mainIs = some (true, "4a358535a3fdcf16b8f6994064c82af79c63477f10344ea5494afcbe3a711897".toList) := by kernel_rfl
theorem z_looks : true = Tryd.prog.looks [] := by kernel_rfl
theorem z_enter : Tryd.prog.mayEnter = true := by kernel_rfl
end Go.V
set_option maxHeartbeats 8000000
set_option maxRecDepth 100000
set_option synthInstance.maxSize 100000
set_option synthInstance.maxHeartbeats 2000000
namespace Go.V
open Go.RowKit Go.Proofs
theorem ZfN (l : List Pc) (hf : ∀ p ∈ l, PcF p) (hs : ∀ p ∈ l, p.lit.size ≤ 1048576) (hl : l.length ≤ 1048576) : PC Cg ZdS [slP l] (fun o => o = .ret (.bool true)) := by
  have c1 := ZcW l hf (by omega)
  have c2 := PC.g (ZcV l (fun p hp => (hf p hp).1) (by omega))
  have c3 := ZfR l hf hs (by omega)
  have c4 := PC.g (ZhL l (fun p hp => (hf p hp).1) (by omega))
  have c5 := ZgL l hf (by omega)
  have c6 := PC.g (Zh4 l (fun p hp => (hf p hp).1) (by omega))
  have c7 := Zep l hf (by omega)
  have c8 := PC.g (ZgH l (fun p hp => (hf p hp).1) (by omega))
  generalize scheck l = K1 at c1 c2
  generalize sPrint l = K2 at c3 c4
  generalize sArgs l = K3 at c5 c6
  generalize sOrd l = K4 at c7 c8
  obtain ⟨a1, b1⟩ := K1
  obtain ⟨a2, b2⟩ := K2
  obtain ⟨a3, b3⟩ := K3
  obtain ⟨a4, b4⟩ := K4
  refine PC.rn ZbK Zdv Zdw (rs := [.tmp 2]) (by rw [Zdx]) ?_
  refine ARun.seq (ARun.region ?_); refine zza ?_; refine AOps.nil (ARun.seq (ARun.region ?_))
  refine zzc rfl rfl (Zfg) ?_
  refine zza ?_; refine AOps.nil (ARun.seq (ARun.region ?_)); refine zzm ?_
  refine zzc rfl rfl (c1) ?_
  refine zzm ?_; refine zze ?_; refine zze ?_; refine zza ?_; refine zza ?_; refine AOps.nil (ARun.seq (ARun.region ?_)); refine zzm ?_
  refine zzc rfl rfl (c2) ?_
  refine zzm ?_; refine zze ?_; refine zze ?_; refine zza ?_; refine zza ?_; refine AOps.nil (ARun.seq (ARun.region ?_)); refine zzm ?_
  refine zzc rfl rfl (c3) ?_
  refine zzm ?_; refine zze ?_; refine zze ?_; refine zza ?_; refine zza ?_; refine AOps.nil (ARun.seq (ARun.region ?_)); refine zzm ?_
  refine zzc rfl rfl (c4) ?_
  refine zzm ?_; refine zze ?_; refine zze ?_; refine zza ?_; refine zza ?_; refine AOps.nil (ARun.seq (ARun.seq (ARun.region ?_))); refine zzm ?_; refine zzm ?_
  refine y_op rfl (OpQ.cast (d' := .bool false) (q_int rfl rfl rfl) (congrArg D.bool (show (a1 != a1) = false from by simp))) ?_
  refine zzm ?_; refine zzm ?_; refine zzm ?_
  refine y_op rfl (OpQ.cast (d' := .bool false) (q_int rfl rfl rfl) (congrArg D.bool (show (b1 != b1) = false from by simp))) ?_
  refine zzp ?_; refine zzm ?_; refine zzm ?_; refine zzm ?_
  refine y_op rfl (OpQ.cast (d' := .bool false) (ZfT rfl rfl) (congrArg D.bool (by simp))) ?_
  refine zzp ?_; refine zzm ?_; refine zzm ?_; refine zzm ?_
  refine y_op rfl (OpQ.cast (d' := .bool false) (q_int rfl rfl rfl) (congrArg D.bool (show (b2 != b2) = false from by simp))) ?_
  refine zzp ?_; refine AOps.nil ?_
  refine ARun.condF rfl ?_
  refine ARun.skip (ARun.seq (ARun.region ?_)); refine zzm ?_
  refine zzc rfl rfl (c5) ?_
  refine zzm ?_; refine zze ?_; refine zze ?_; refine zza ?_; refine zza ?_; refine AOps.nil (ARun.seq (ARun.region ?_)); refine zzm ?_
  refine zzc rfl rfl (c6) ?_
  refine zzm ?_; refine zze ?_; refine zze ?_; refine zza ?_; refine zza ?_; refine AOps.nil (ARun.seq (ARun.region ?_)); refine zzm ?_
  refine zzc rfl rfl (c7) ?_
  refine zzm ?_; refine zze ?_; refine zze ?_; refine zza ?_; refine zza ?_; refine AOps.nil (ARun.seq (ARun.region ?_)); refine zzm ?_
  refine zzc rfl rfl (c8) ?_
  refine zzm ?_; refine zze ?_; refine zze ?_; refine zza ?_; refine zza ?_; refine AOps.nil (ARun.seq (ARun.region ?_)); refine zzm ?_; refine zzm ?_; refine zzm ?_; refine zzm ?_
  refine y_op rfl (OpQ.cast (d' := .bool true) (q_int rfl rfl rfl) (congrArg D.bool (show (a3 == a3) = true from by simp))) ?_
  refine zzp ?_; refine zzm ?_; refine zzm ?_; refine zzm ?_
  refine y_op rfl (OpQ.cast (d' := .bool true) (q_int rfl rfl rfl) (congrArg D.bool (show (b3 == b3) = true from by simp))) ?_
  refine zzp ?_; refine zzm ?_; refine zzm ?_; refine zzm ?_
  refine y_op rfl (OpQ.cast (d' := .bool true) (Zin rfl rfl rfl) (congrArg D.bool (by simp))) ?_
  refine zzp ?_; refine zzm ?_; refine zzm ?_; refine zzm ?_
  refine y_op rfl (OpQ.cast (d' := .bool true) (q_int rfl rfl rfl) (congrArg D.bool (show (b4 == b4) = true from by simp))) ?_
  refine zzp ?_; refine zza ?_; refine AOps.nil ?_
  refine ARun.ret ?_
  refine ⟨_, _, _, .tmp rfl .nil, .cons (.same _) .nil, rfl, ?_⟩
  rfl
end Go.V
/- ROWS WITH THE SECOND FORM's CONDITION: the witness, and what the condition says of a list of pieces. -/
set_option maxRecDepth 100000
namespace Go.V
open Go.RowKit Go.Proofs Go.ChangeShapes Go.WideShapes Go.ChangeAt Go.ChangeMaps Go.Proofs.YthankfodgdfgaaaDoor
theorem bulk_mem {H : Type} : ∀ (l : List Pc) (ds : List (DataW H)), F2 (fun (q : Pc) (x : DataW H) => ∃ r, x = .agg (.lit (.string q.lit.data.toList) :: r)) l ds → l.length ≤ Rows.uptoBulkAll ds ∧ ∀ p ∈ l, p.lit.size ≤ Rows.uptoBulkAll ds
  | [], [], _ => ⟨Nat.zero_le _, fun _ h => by cases h⟩
  | [], _ :: _, h => by cases h
  | _ :: _, [], h => by cases h
  | p :: l, d :: ds, h => by
    cases h with
    | cons h1 h2 =>
      obtain ⟨r, rfl⟩ := h1
      obtain ⟨a, b⟩ := bulk_mem l ds h2
      have e : Rows.uptoBulkAll (DataW.agg (.lit (.string p.lit.data.toList) :: r) :: ds) = (p.lit.data.toList.length + 1 + Rows.uptoBulkAll r + 1) + Rows.uptoBulkAll ds := by
        simp only [Rows.uptoBulkAll, Rows.uptoBulk]
      have hz : p.lit.data.toList.length = p.lit.size := by rw [Array.length_toList]; rfl
      rw [e]
      refine ⟨by rw [List.length_cons]; omega, fun q hq => ?_⟩
      rcases List.mem_cons.1 hq with rfl | hq
      · omega
      have := b q hq; omega
theorem bulk_list {H : Type} {d : DataW H} {l : List Pc} (h : d = .nil ∧ l = [] ∨ ∃ ds rest, d = .slice ds rest ∧ F2 (fun (q : Pc) (x : DataW H) => ∃ r, x = .agg (.lit (.string q.lit.data.toList) :: r)) l ds) (hc : Rows.uptoSmall H ([d] ++ []) = true) :
    l.length ≤ 1048576 ∧ ∀ p ∈ l, p.lit.size ≤ 1048576 := by
  have hc := of_decide_eq_true hc
  rcases h with ⟨_, rfl⟩ | ⟨ds, rest, rfl, hf⟩
  · exact ⟨Nat.zero_le _, fun _ h => by cases h⟩
  obtain ⟨a, b⟩ := bulk_mem l ds hf
  have e : Rows.uptoBulkAll ([DataW.slice ds rest] ++ []) = (Rows.uptoBulkAll ds + Rows.uptoBulkAll rest + 1) + 0 := by
    simp only [List.append_nil, Rows.uptoBulkAll, Rows.uptoBulk]
  rw [e] at hc
  exact ⟨by omega, fun p hp => by have := b p hp; omega⟩
theorem PcF_of {l : List Pc} (hk : ∀ q ∈ l, PcK q) (hs : ∀ p ∈ l, p.lit.size ≤ 1048576) : ∀ p ∈ l, PcF p := fun p hp =>
  ⟨⟨Nat.le_trans (hs p hp) (by decide), (hk p hp).2.1⟩, (hk p hp).2.2.1, (hk p hp).2.2.2.1, (hk p hp).2.2.2.2⟩
section
variable {H : Type} {enc : TypeId × Value → H}
theorem witness_map {os : Os} {f : FuncId} {fn : Func} {s : OpenSpec} {conds : List PathCond} {apart : Bool} {laid : List (String × DataW Unit)} (args : Array Value)
    (hok : Input.okWideB Tryd.checked.prog ((mapW os).forCall (fun _ _ => 0) ⟨#[], args, []⟩) f ⟨#[], args, []⟩ = true)
    (hrow : s.preRow enc Tryd.checked.prog fn conds apart laid ((mapW os).forCall (fun _ _ => 0) ⟨#[], args, []⟩).memory args) :
    ∃ (w : World) (tape : Tape) (i : Input), w.os = os ∧ (w.forCall tape i).Shaped Tryd.checked.prog ∧ i.vars = [] ∧ Input.okWide Tryd.checked.prog (w.forCall tape i) .any w.heap.size f i ∧
      s.preRow enc Tryd.checked.prog fn conds apart laid (w.forCall tape i).memory i.args ∧ ({} : Assume).holds Tryd.checked.prog (lone (Frame.enter Tryd.checked.prog f i.args .normal) [] (w.forCall tape i)) :=
  ⟨mapW os, fun _ _ => 0, ⟨#[], args, []⟩, mapW_os os, mapW_shaped os, (Input.okWide_of_okWideB (base := 0) hok).1, (Input.okWide_of_okWideB hok).2, hrow, by
    simp only [Assume.holds]
    exact ⟨by simp, by simp, fun _ => Modest.zero, by simp, by simp⟩⟩
end
end Go.V
