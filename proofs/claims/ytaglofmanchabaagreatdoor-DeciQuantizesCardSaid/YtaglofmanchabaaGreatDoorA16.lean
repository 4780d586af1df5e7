/- Rules for steps and contracts of functions, each proved; no condition. -/
import Derived.Test.YtaglofmanchabaaGreatDoorA15
import Derived.DeepKeys3
set_option linter.unusedVariables false
set_option linter.unusedSimpArgs false
set_option linter.unnecessarySimpa false
set_option maxHeartbeats 2000000
set_option synthInstance.maxHeartbeats 2000000
set_option synthInstance.maxSize 100000
namespace Go.V
open Go.RowKit Go.Proofs
theorem add_same {a b : Dt} {dir : Int} (ha : U32 a.coef) (hb : U32 b.coef) : ZR a [a, b] dir (addO a.fmt dir a b) = addG a b dir := by
  unfold ZR addG
  by_cases h0 : chkL a [a, b] dir = 0
  · rw [if_pos h0, if_pos h0]
    cases hN : nanO [a, b] with
    | some r => rfl
    | none =>
      obtain ⟨hdr, hall, hfm⟩ := Zbn h0;simp only [List.all_cons, List.all_nil, Bool.and_true, Bool.and_eq_true, decide_eq_true_eq] at hall hfm;obtain ⟨m, hm⟩ := ZbW ha hall.1;obtain ⟨n, hn⟩ := ZbW hb hall.2;have hn' := hn.lt;rw [hfm.2] at hn';unfold addO
      by_cases h1 : a.cls = 2
      · by_cases h2 : b.cls = 2 ∧ a.neg ≠ b.neg
        · rw [if_pos h1, if_pos h2]
          simp only [if_pos (show a.cls = 2 ∧ b.cls = 2 ∧ a.neg ≠ b.neg from ⟨h1, h2⟩)]
        rw [if_pos h1, if_neg h2];simp only [if_neg (show ¬ (a.cls = 2 ∧ b.cls = 2 ∧ a.neg ≠ b.neg) from fun h => h2 h.2), if_pos h1]; rfl
      rw [if_neg h1];simp only [if_neg (show ¬ (a.cls = 2 ∧ b.cls = 2 ∧ a.neg ≠ b.neg) from fun h => h1 h.1), if_neg h1]
      by_cases h2 : b.cls = 2
      · rw [if_pos h2, if_pos h2]; rfl
      rw [if_neg h2, if_neg h2, hm.z, hn.z, hm.co, hn.co, Zl, Zl];show (ocR a.fmt dir _, (0 : Int)) = _;rw [sum_same a.fmt dir a.neg b.neg m n a.exp b.exp (ZG hm.lt (by omega)) (ZG hn' (by omega))]
  rw [if_neg h0, if_neg h0]
theorem addO_W {f dir : Int} {a b : Dt} {m n : Nat} (ha : dtF f a m) (hb : dtF f b n) : ∀ x, addO f dir a b = some x → ocW f x := by
  intro x hx;have hp := ZW f
  have hX : (dtZ a).natAbs < 10 ^ (2 * fP f) := by rw [ha.ab]; exact ZG ha.lt (by omega)
  have hY : (dtZ b).natAbs < 10 ^ (2 * fP f) := by rw [hb.ab]; exact ZG hb.lt (by omega)
  have he := ha.e1; have he2 := ha.e2; have he3 := hb.e1; have he4 := hb.e2;unfold addO at hx
  split at hx
  · split at hx
    · cases hx
    injection hx with hx; subst hx; exact Nat.zero_le _
  split at hx
  · injection hx with hx; subst hx; exact Nat.zero_le _
  injection hx with hx; subst hx
  have hN : ∀ A ea B eb : Int, A.natAbs < 10 ^ (2 * fP f) → B.natAbs < 10 ^ (2 * fP f) → eb ≤ ea → -100000 ≤ eb → ea ≤ 100000 → (sumN (fP f) A ea B eb).1.natAbs < 10 ^ (8 * fP f) ∧ -1000000 ≤ (sumN (fP f) A ea B eb).2 ∧ (sumN (fP f) A ea B eb).2 ≤ 1000000 := by
    intro A ea B eb hA hB h1 h2 h3;have hA8 := ZG hA (show 2 * fP f ≤ 8 * fP f by omega);have hB8 := ZG hB (show 2 * fP f ≤ 8 * fP f by omega)
    have hsum : ∀ k, k ≤ 6 * fP f → ∀ C : Int, C.natAbs < 10 ^ (2 * fP f) → (A * ((10 ^ k : Nat) : Int) + C).natAbs < 10 ^ (8 * fP f) := by
      intro k hk C hC;have h4 := Int.natAbs_add_le (A * ((10 ^ k : Nat) : Int)) C;rw [Zdz] at h4;have h5 : (A.natAbs + 1) * 10 ^ k ≤ 10 ^ (2 * fP f) * 10 ^ (6 * fP f) := Nat.mul_le_mul hA (Nat.pow_le_pow_right (by omega) hk);rw [← Nat.pow_add, show 2 * fP f + 6 * fP f = 8 * fP f by omega, Nat.add_mul, Nat.one_mul] at h5
      rcases Nat.lt_or_ge (5 * fP f) k with h6 | h6
      · have h7 : 10 ^ (2 * fP f) ≤ 10 ^ k := Nat.pow_le_pow_right (by omega) (by omega)
        omega
      have h7 : A.natAbs * 10 ^ k < 10 ^ (7 * fP f) := Zak hA (by omega);have h8 : 10 ^ (2 * fP f) ≤ 10 ^ (7 * fP f) := Nat.pow_le_pow_right (by omega) (by omega);have h9 : 10 ^ (7 * fP f + 1) ≤ 10 ^ (8 * fP f) := Nat.pow_le_pow_right (by omega) (by omega);rw [Nat.pow_succ] at h9;omega
    unfold sumN
    split
    · exact ⟨hB8, by omega, by omega⟩
    split
    · exact ⟨hA8, by omega, by omega⟩
    split
    · refine ⟨hsum _ (Nat.le_refl _) _ (by rw [Zw]; exact Nat.one_lt_pow (by omega) (by omega)), by dsimp only; omega, by dsimp only; omega⟩
    exact ⟨hsum _ (by omega) _ hB, by dsimp only; omega, by dsimp only; omega⟩
  have key : (sumZ (fP f) (dtZ a) a.exp (dtZ b) b.exp).1.natAbs < 10 ^ (8 * fP f) ∧ -1000000 ≤ (sumZ (fP f) (dtZ a) a.exp (dtZ b) b.exp).2 ∧ (sumZ (fP f) (dtZ a) a.exp (dtZ b) b.exp).2 ≤ 1000000 := by
    unfold sumZ
    split
    · exact hN _ _ _ _ hY hX (by omega) he he4
    exact hN _ _ _ _ hX hY (by omega) he3 he2
  exact ⟨key.1, Nat.one_pos, Nat.one_lt_pow (by omega) (by omega), key.2.1, key.2.2⟩
theorem ZeW {a b : Dt} (ha : U32 a.coef ∧ a.coef.length ≤ 35184372088832) (hb : U32 b.coef ∧ b.coef.length ≤ 35184372088832) : ∀ d ∈ [a, b], U32 d.coef ∧ d.coef.length ≤ 35184372088832 := fun d hd => by
  simp only [List.mem_cons, List.not_mem_nil, or_false] at hd
  rcases hd with rfl | rfl <;> assumption
theorem ZbQ {a b : Dt} {dir : Int} (ha : U32 a.coef) (hb : U32 b.coef) (h : chkL a [a, b] dir = 0) : isF a.fmt ∧ ∃ m n, dtF a.fmt a m ∧ dtF a.fmt b n := by
  obtain ⟨hdr, hall, hfm⟩ := Zbn h;simp only [List.all_cons, List.all_nil, Bool.and_true, Bool.and_eq_true, decide_eq_true_eq] at hall hfm;obtain ⟨m, hm⟩ := ZbW ha hall.1;obtain ⟨n, hn⟩ := ZbW hb hall.2;rw [hfm.2] at hn;exact ⟨Zhm hall.1, m, n, hm, hn⟩
theorem Zkd (a b : Dt) (dir : Int) (ha : U32 a.coef ∧ a.coef.length ≤ 35184372088832) (hb : U32 b.coef ∧ b.coef.length ≤ 35184372088832) : PC Cd 19 [dtD a, dtD b, .int .i64 dir] (fun o => o = .ret (.tup [rsD (addG a b dir).1, .int .i64 (addG a b dir).2])) := by
  have hD := ZcJ a [b] 2 dir 69 (addO a.fmt dir a b) rfl (ZeW ha hb) (fun h _ => by
    obtain ⟨hf, m, n, hm, hn⟩ := ZbQ ha.1 hb.1 h
    exact PC.gl (Zh9 a.fmt dir a b m n hf hm hn)) (fun h _ => by
    obtain ⟨hf, m, n, hm, hn⟩ := ZbQ ha.1 hb.1 h
    exact addO_W hm hn)
  rw [add_same ha.1 hb.1] at hD;refine Znr Tryz.func19 Tryz.ntmps19 Tryz.results19 ?_;refine go ?_;refine zzb ?_; refine zzb ?_;refine go ?_;refine Za rfl (Zd rfl rfl rfl rfl rfl rfl rfl rfl rfl rfl rfl (by decide) (by decide) rfl) ?_;refine Zc rfl rfl (hD) ?_;refine go ?_;refine ARun.ret ?_;refine ⟨_, _, _, Znt rfl rfl rfl rfl rfl rfl (.tmp rfl .nil), .cons (.same _) (.cons (.same _) .nil), rfl, ?_⟩;rfl
noncomputable def subG (a b : Dt) (dir : Int) : Rs × Int := if isN b then addG a b dir else addG a { b with neg := !b.neg } dir
theorem sub_same {a b : Dt} {dir : Int} (ha : U32 a.coef) (hb : U32 b.coef) : ZR a [a, b] dir (addO a.fmt dir a { b with neg := !b.neg }) = subG a b dir := by
  unfold subG
  cases hN : isN b with
  | true =>
    rw [if_pos rfl];unfold ZR addG
    by_cases h0 : chkL a [a, b] dir = 0
    · rw [if_pos h0, if_pos h0]
      have h1 : ∃ r, nanO [a, b] = some r := by
        unfold nanO
        cases hA : isN a <;> simp [hA, hN]
      obtain ⟨r, hr⟩ := h1;rw [hr]
    rw [if_neg h0, if_neg h0]
  | false =>
    rw [if_neg (by decide), ← add_same ha (show U32 { b with neg := !b.neg }.coef from hb)]
    have h4 : (b.cls == 4) = false := by
      cases h5 : (b.cls == 4) with
      | false => rfl
      | true => rw [isN4 h5] at hN; cases hN
    have hN2 : isN { b with neg := !b.neg } = false := hN
    have hn : nanO [a, { b with neg := !b.neg }] = nanO [a, b] := by
      unfold nanO
      cases hA : isN a <;> simp [hA, hN, hN2]
    unfold ZR;rw [hn]; rfl
theorem Zke (a b : Dt) (dir : Int) (ha : U32 a.coef ∧ a.coef.length ≤ 35184372088832) (hb : U32 b.coef ∧ b.coef.length ≤ 35184372088832) : PC Cd 20 [dtD a, dtD b, .int .i64 dir] (fun o => o = .ret (.tup [rsD (subG a b dir).1, .int .i64 (subG a b dir).2])) := by
  have hD := ZcJ a [b] 2 dir 71 (addO a.fmt dir a { b with neg := !b.neg }) rfl (ZeW ha hb) (fun h _ => by
    obtain ⟨hf, m, n, hm, hn⟩ := ZbQ ha.1 hb.1 h
    exact PC.gl (ZlY a.fmt dir a b m n hf hm hn)) (fun h _ => by
    obtain ⟨hf, m, n, hm, hn⟩ := ZbQ ha.1 hb.1 h
    exact addO_W hm (b := { b with neg := !b.neg }) ⟨hn.co, hn.lt, hn.e1, hn.e2⟩)
  rw [sub_same ha.1 hb.1] at hD;refine Znr Tryz.func20 Tryz.ntmps20 Tryz.results20 ?_;refine go ?_;refine zzb ?_; refine zzb ?_;refine go ?_;refine Za rfl (Zd rfl rfl rfl rfl rfl rfl rfl rfl rfl rfl rfl (by decide) (by decide) rfl) ?_;refine Zc rfl rfl (hD) ?_;refine go ?_;refine ARun.ret ?_;refine ⟨_, _, _, Znt rfl rfl rfl rfl rfl rfl (.tmp rfl .nil), .cons (.same _) (.cons (.same _) .nil), rfl, ?_⟩;rfl
theorem Zmx (a b : Dt) (dir : Int) (ha : U32 a.coef) (hb : U32 b.coef) : PC C 23 [dtD a, dtD b, .int .i64 dir] (fun o => o = .ret (ZfZ (subG a b dir).1 (subG a b dir).2)) := by
  have h1 := ZhI a b dir ha hb;have h2 := ZhI a { b with neg := !b.neg } dir ha hb;unfold subG;refine Znr Tryz.func23 Tryz.ntmps23 Tryz.results23 ?_;refine zzs ?_;refine Zq rfl (Zdu rfl rfl rfl) ?_;refine Zq rfl (Zdu rfl rfl rfl) ?_;refine go ?_;refine Zc rfl rfl (ZcS b) ?_;refine AOps.nil ?_;refine ARun.cond rfl (fun h => ?_) (fun h => ?_)
  · skip
    rw [if_pos h];refine go ?_;refine Zc rfl rfl (h1) ?_;refine go ?_;refine Zns ?_;rfl
  rw [if_neg (by rw [h]; decide)];refine go ?_;refine Zc rfl rfl (h2) ?_;refine go ?_;refine Zns ?_;rfl
structure P4 where
  a : Bool
  b : Bool
  c : Bool
  d : Bool
  deriving DecidableEq
def bV (x : P4) : Value := .agg #[.bool x.a, .bool x.b, .bool x.c, .bool x.d]
abbrev bK (x : P4) : D := .agg [.bool x.a, .bool x.b, .bool x.c, .bool x.d]
structure PairK (P : Program) (kt : TypeId) : Prop where
  eq : ∀ (x y : P4) (w : World), (Op.equal kt (bV x) (bV y)).run P w = .ok (decide (x = y)) w
  chk : ∀ (em : Bool) (w : World) (x : P4), (Instr.checkKey em 10000 kt (bV x)).run P w = .ok () w
  wide : (match P.underlying kt with | some (.array _ _) | some (.struct _) => true | _ => false) = true
theorem chk_deep {P : Program} {em : Bool} {w : World} {t : TypeId} {m F : Nat} {x : Value} {la : List Lit} (hk : P.keyTypeAt m t = true) (hm : m ≤ 10000) (fx : x.formed P t = true) (lx : P.keyLits F t x.cells.toList = some la) : (Instr.checkKey em 10000 t x).run P w = .ok () w := by
  have h := run_checkKey_deep (P := P) em (10000 - m) m t hk w F x la fx lx;rw [Nat.sub_add_cancel hm] at h;exact h
theorem Zgz : PairK C.P Z8 := by
  have hk : C.P.keyTypeAt 2 Z8 = true := by kernel_rfl
  have hf : ∀ x : P4, (bV x).formed C.P Z8 = true := fun x => by
    obtain ⟨a, b, c, d⟩ := x
    cases a <;> cases b <;> cases c <;> cases d <;> kernel_rfl
  have hl : ∀ x : P4, C.P.keyLits 2 Z8 (bV x).cells.toList = some [.bool x.a, .bool x.b, .bool x.c, .bool x.d] := fun x => by
    obtain ⟨a, b, c, d⟩ := x
    cases a <;> cases b <;> cases c <;> cases d <;> kernel_rfl
  refine ⟨fun x y w => ?_, fun em w x => ?_, by kernel_rfl⟩
  · obtain ⟨r, hr, hiff⟩ := run_equalIn_deep (P := C.P) (10000 - 2) 2 Z8 hk w 2 2 (bV x) (bV y) _ _ (hf x) (hf y) (hl x) (hl y)
    have hr' : (Op.equal Z8 (bV x) (bV y)).run C.P w = .ok r w := hr
    have he : r = decide (x = y) := by
      rw [Bool.eq_iff_iff, hiff, decide_eq_true_eq];obtain ⟨a, b, c, d⟩ := x;obtain ⟨a', b', c', d'⟩ := y;simp
    rw [he] at hr';exact hr'
  exact chk_deep (m := 2) (F := 2) hk (by omega) (hf x) (hl x)
def esP (ps : List (P4 × D)) : List (D × D) := ps.map fun p => (bK p.1, p.2)
def Zf2 (x : P4) : List (P4 × D) → Option D
  | [] => none
  | p :: ps => if x = p.1 then some p.2 else Zf2 x ps
theorem ask_ok {P : Program} {kt : TypeId} (K : PairK P kt) {w : World} {L : Nat → Prop} {μ : List Nat} {H : Heap} (x : P4) : ∀ (ps : List (P4 × D)) (l : List MapEntry) (i : Nat), VRs w L μ H ((esP ps).map (·.1)) (l.map (·.key)) → VRs w L μ H ((esP ps).map (·.2)) (l.map (·.val)) →
    match Zf2 x ps with
    | none => (Instr.findAsking kt (bV x) l i).run P w = .ok none w
    | some d => ∃ j v, (Instr.findAsking kt (bV x) l i).run P w = .ok (some (j, v)) w ∧ VR w L μ H d v
  | [], l, i, h1, _ => by
    simp only [esP, List.map_nil, VRs] at h1;have : l = [] := List.map_eq_nil_iff.1 h1;subst this;simp [Zf2, Instr.findAsking]
  | p :: ps, [], i, h1, _ => by simp [esP, VRs] at h1
  | p :: ps, e :: l, i, h1, h2 => by
    simp only [esP, List.map_cons, VRs] at h1 h2;obtain ⟨v1, us1, e1, k1, k2⟩ := h1;obtain ⟨v2, us2, e2, m1, m2⟩ := h2
    injection e1 with e1 e1'
    injection e2 with e2 e2'
    subst e1; subst e2; subst e1'; subst e2'
    have hkey : e.key = bV p.1 := by
      simp only [VR, VRs] at k1;obtain ⟨vs, hv, _, _, rfl, rfl, _, _, rfl, rfl, _, _, rfl, rfl, _, _, rfl, rfl, rfl⟩ := k1;exact hv
    have ih := ask_ok K x ps l (i + 1) k2 m2;unfold Zf2
    by_cases hx : x = p.1
    · rw [if_pos hx]
      refine ⟨i, e.val, ?_, m1⟩;simp [Instr.findAsking, hkey, K.eq, hx]
    rw [if_neg hx]
    have : (Instr.findAsking kt (bV x) (e :: l) i).run P w = (Instr.findAsking kt (bV x) l (i + 1)).run P w := by
      simp [Instr.findAsking, hkey, K.eq, hx]
    rw [this];exact ih
section
variable {C : Ctx} {env : List D} {H H' : Heap} {dst : Option Tmp} {ty : TypeId} {pos : String} {aft : Array Edge} {gd : Option (Nat × Bool)} {x y z : Operand} {d : D} {T kt et : TypeId} {te : TE}
theorem Zbh (K : PairK C.P kt) {i : Nat} {k : P4} {ps : List (P4 × D)} {op : Op} (hop : op = .insert T x y z ∨ op = .mapUpdate T x y z) (hm : C.P.underlying T = some (.map kt et)) (hx : evO C env x = some (.mapp i)) (hy : evO C env y = some (bK k)) (hz : evO C env z = some d) (ho : H[i]? = some (mapO (esP ps))) (hf : Zf2 k ps = none)
    [pl : PutL H i (mapO (esP (ps ++ [(k, d)]))) H'] : OpN C ⟨dst, op, ty, pos, aft, gd⟩ env H (.tup []) H' := by
  rw [← pl.eq];refine ⟨fun L0 w μ a hs hv => ?_⟩;have ex := Zap hs hv hx;have ey := Zap hs hv hy;have ez := Zap hs hv hz
  have ey : a.eval y = bV k := by
    simp only [VR, VRs] at ey;obtain ⟨vs, hv, _, _, rfl, rfl, _, _, rfl, rfl, _, _, rfl, rfl, _, _, rfl, rfl, rfl⟩ := ey;exact hv
  simp only [VR] at ex;obtain ⟨b, hb, ex⟩ := ex;obtain ⟨_, ea, clock, k1, k2, k3⟩ := (hs.obj i _ b ho hb).spec rfl;have hfn := ask_ok K k ps ea.toList 0 k2 k3;rw [hf] at hfn;simp only at hfn;have hfk := (run_findKey_eq (P := C.P) (w := w) K.wide (bV k) ea.toList).trans hfn
  have hrun : (execOp a.eval ⟨dst, op, ty, pos, aft, gd⟩).run C.P w = .ok .skip (putB w b (.map (ea.push { key := bV k, val := a.eval z, born := clock }) (clock + 1))) := by
    have hmu : (Instr.mapUpdate T (.map (some b)) (bV k) (a.eval z)).run C.P w = .ok () (putB w b (.map (ea.push { key := bV k, val := a.eval z, born := clock }) (clock + 1))) := by
      have hg : (getObj b).run C.P w = .ok (.map ea clock) w := by simp [getObj, Sem.run, k1]
      have hset : ∀ o, (setObj b o).run C.P w = .ok () (putB w b o) := by intro o; simp [setObj, Sem.run, k1, putB]
      simp only [Instr.mapUpdate, Sem.run_bind, run_underlying hm, Result.andThen_ok, hg, K.chk, hfk, hset]
    rcases hop with rfl | rfl <;> simp only [execOp, ex, ey, Sem.run_bind, hmu, Result.andThen_ok, Sem.run_pure]
  unfold Oper.wp;rw [hrun]
  obtain ⟨s1, e1⟩ := hs.putS (x' := mapO (esP (ps ++ [(k, d)]))) (ob := .map (ea.push { key := bV k, val := a.eval z, born := clock }) (clock + 1)) ho hb rfl (by simp) fun o' e => by
    injection e with e
    subst e;refine ⟨rfl, rfl, rfl, .of_spec rfl ⟨rfl, _, _, ZhL (hs.block_lt ho hb), ?_, ?_⟩⟩
    · simp only [esP, List.map_append, List.map_cons, List.map_nil, Array.toList_push]
      exact Zbt (by simpa only [esP] using k2) (by simp only [VRs, VR]; exact ⟨_, _, rfl, ⟨_, rfl, _, _, rfl, rfl, _, _, rfl, rfl, _, _, rfl, rfl, _, _, rfl, rfl, rfl⟩, rfl⟩)
    simp only [esP, List.map_append, List.map_cons, List.map_nil, Array.toList_push];exact Zbt (by simpa only [esP] using k3) (by simp only [VRs]; exact ⟨_, _, rfl, ez, rfl⟩)
  exact ⟨undef, .tup [], _, μ, ⟨rfl, rfl⟩, rfl, s1, by simp only [VR]; exact ⟨[], rfl, by simp [VRs]⟩, e1⟩
theorem Zkf (K : PairK C.P kt) {i : Nat} {k : P4} {ps : List (P4 × D)} {dz : D} (hm : C.P.underlying T = some (.map kt et)) (hte : C.ty et = some te) (hdz : Zas te.zero = some dz) (hx : evO C env x = some (.mapp i)) (hy : evO C env y = some (bK k)) (ho : H[i]? = some (mapO (esP ps))) (hr : (Zf2 k ps).getD dz = d) :
    OpQ C ⟨dst, .lookup T x y false, ty, pos, aft, gd⟩ env H d :=
  ZnE fun L0 w μ a hs he => by
    have ex := he _ _ hx;have ey := he _ _ hy
    have ey : a.eval y = bV k := by
      simp only [VR, VRs] at ey;obtain ⟨vs, hv, _, _, rfl, rfl, _, _, rfl, rfl, _, _, rfl, rfl, _, _, rfl, rfl, rfl⟩ := ey;exact hv
    simp only [VR] at ex;obtain ⟨b, hb, ex⟩ := ex;obtain ⟨_, ea, clock, k1, k2, k3⟩ := (hs.obj i _ b ho hb).spec rfl;have hfn := ask_ok K k ps ea.toList 0 k2 k3
    have hg : (getObj b).run C.P w = .ok (.map ea clock) w := by simp [getObj, Sem.run, k1]
    cases hfp : Zf2 k ps with
    | none =>
      rw [hfp] at hfn hr;simp only at hfn;have hfk := (run_findKey_eq (P := C.P) (w := w) K.wide (bV k) ea.toList).trans hfn;refine ⟨te.zero, ?_, by rw [← hr]; exact ZaZ hdz⟩;simp only [execOp, ex, ey, Instr.lookup, Sem.run_bind, run_underlying hm, Result.andThen_ok, hg, Sem.run_pure, K.chk, hfk, (ZU hte).1.run_zero];rfl
    | some v0 =>
      rw [hfp] at hfn hr;simp only at hfn;obtain ⟨j, v, hfn, hvd⟩ := hfn;have hfk := (run_findKey_eq (P := C.P) (w := w) K.wide (bV k) ea.toList).trans hfn;refine ⟨v, ?_, by rw [← hr]; exact hvd⟩;simp only [execOp, ex, ey, Instr.lookup, Sem.run_bind, run_underlying hm, Result.andThen_ok, hg, Sem.run_pure, K.chk, hfk];rfl
end
theorem ZnZ {C : Ctx} {Q : Post} {k0 k : List Item} {env0 env : List D} {H0 : Heap} {df0 df : List ADef} (A B : P4 × D) (hk : (∀ ps, ps = [A, B] ∨ ps = [B, A] → ARun C Q k env [mapO (esP ps)] df) → ARun C Q k0 env0 H0 df0) (hc : ∀ ps, ps = [A, B] ∨ ps = [B, A] → ARun C Q k env [mapO (esP ps)] df) : ARun C Q k0 env0 H0 df0 := hk hc
def isZD (d : Dt) : Bool := d.cls == 1 && ((d.coef.length : Nat) : Int) == 0
def pairD (a b : Dt) : P4 := ⟨a.cls == 2, isZD a, b.cls == 2, isZD b⟩
theorem ZgV (a b : Dt) : PC C 80 [dtD a, dtD b] (fun o => o = .ret (bK (pairD a b))) := by
  refine Znr Tryz.func80 Tryz.ntmps80 Tryz.results80 ?_;refine go ?_;refine zzb ?_; refine zzb ?_;refine go ?_;refine zdr 9 mixC ?_;refine .op rfl (Ze rfl rfl rfl rfl rfl) ?_;refine .op rfl (Zb rfl rfl (Z3 a)) ?_;refine .op rfl (Ze rfl rfl rfl rfl rfl) ?_;refine .op rfl (Zb rfl rfl (Zcg a)) ?_;refine .op rfl (Ze rfl rfl rfl rfl rfl) ?_;refine .op rfl (Zb rfl rfl (Z3 b)) ?_;refine .op rfl (Ze rfl rfl rfl rfl rfl) ?_;refine .op rfl (Zb rfl rfl (Zcg b)) ?_;refine .op rfl (Zal rfl rfl rfl rfl rfl) ?_;refine .nil (fun hG => ?_);refine go ?_;refine Zns ?_;rfl
theorem prod_sgnd (s t : Bool) (m n : Nat) : sgnd s m * sgnd t n = sgnd (s != t) (m * n) := by
  unfold sgnd; cases s <;> cases t <;> simp [Int.neg_mul, Int.mul_neg]
theorem ZjT (f : Int) (a b : Dt) (m n : Nat) (ha : dtF f a m) (hb : dtF f b n) : PC C 83 [dtD a, dtD b] (fun o => o = .ret (exD (dtZ a * dtZ b) 1 (a.exp + b.exp) (a.neg != b.neg) (a.exp + b.exp))) := by
  have hp := ZW f;have hT := Zc8 a m ha.co;have hT2 := Zc8 b n hb.co;rw [← ha.z] at hT;rw [← hb.z] at hT2;have h1 := ha.e1; have h2 := ha.e2; have h3 := hb.e1; have h4 := hb.e2
  have la : fitZ (dtZ a) := by unfold fitZ; rw [ha.ab]; exact fitW ha.lt (by omega)
  have lb : fitZ (dtZ b) := by unfold fitZ; rw [hb.ab]; exact fitW hb.lt (by omega)
  have lab : fitZ (dtZ a * dtZ b) := by
    unfold fitZ; rw [Int.natAbs_mul, ha.ab, hb.ab];have := Nat.mul_lt_mul'' ha.lt hb.lt;rw [← Nat.pow_add] at this;exact fitW this (by omega)
  refine Znr Tryz.func83 Tryz.ntmps83 Tryz.results83 ?_;refine go ?_;refine zzb ?_; refine zzb ?_;refine go ?_;refine ZnF (n := 8) (fun S : Nat → Bool => [some ⟨[.bool false, .nilsl, .nilsl, .int .i64 0, .bool false, .int .i64 0], ZE, 1, true, none⟩]) [(4, 5, 108, [.bool false, .nilsl, .nilsl, .int .i64 0, .bool false, .int .i64 0], some (6, [.bool (decide (dtZ a < 0)), numD (dtZ a).natAbs, numD 1, .int .i64 a.exp, .bool a.neg, .int .i64 a.exp])), (5, 6, 108, [.bool false, .nilsl, .nilsl, .int .i64 0, .bool false, .int .i64 0], some (7, [.bool (decide (dtZ b < 0)), numD (dtZ b).natAbs, numD 1, .int .i64 b.exp, .bool b.neg, .int .i64 b.exp]))] (fun _ => False) (sk := [(4, some 6), (5, some 7)]) mixC rfl rfl (by kernel_rfl) rfl (by kernel_rfl) rfl rfl (fun _ _ _ h => h.elim) ?_;refine DChG.op rfl (fun _ => Ze rfl rfl rfl rfl rfl) (fun _ => rfl) rfl rfl ?_;refine DChG.op rfl (fun _ => Zb rfl rfl (hT)) (fun _ => rfl) rfl rfl ?_;refine DChG.op rfl (fun _ => Ze rfl rfl rfl rfl rfl) (fun _ => rfl) rfl rfl ?_;refine DChG.op rfl (fun _ => Zb rfl rfl (hT2)) (fun _ => rfl) rfl rfl ?_;refine .al rfl rfl rfl rfl (fun _ => rfl) rfl rfl rfl ?_;refine .al rfl rfl rfl rfl (fun _ => rfl) rfl rfl rfl ?_;refine .sp (j := 4) rfl rfl rfl rfl rfl rfl rfl (fun _ => rfl) rfl rfl rfl (by kernel_rfl) ?_;refine .sp (j := 5) rfl rfl rfl rfl rfl rfl rfl (fun _ => rfl) rfl rfl rfl (by kernel_rfl) ?_;refine .nil (fun hG => ZnH (as' := [(4, 5, 108, [.bool (decide (dtZ a < 0)), numD (dtZ a).natAbs, numD 1, .int .i64 a.exp, .bool a.neg, .int .i64 a.exp]), (5, 6, 108, [.bool (decide (dtZ b < 0)), numD (dtZ b).natAbs, numD 1, .int .i64 b.exp, .bool b.neg, .int .i64 b.exp])]) rfl ?_);refine go ?_;refine Zc rfl rfl (wMul (dtZ a) (dtZ b) la lb lab) ?_;refine ga ?_;refine ZI rfl rfl rfl rfl rfl rfl rfl rfl rfl rfl rfl ?_;refine gn ?_;refine Za rfl (Znq (Zd rfl rfl rfl rfl rfl rfl rfl rfl rfl rfl rfl (by decide) (by decide) rfl) ZO) ?_;refine gn ?_;refine Za rfl (Zf rfl rfl (IntWalk.i64_in _ (by omega))) ?_;refine gn ?_;refine Za rfl (Zbu rfl rfl rfl) ?_;refine gn ?_;refine Za rfl (Zf rfl rfl (IntWalk.i64_in _ (by omega))) ?_;refine go ?_;refine Zns ?_;rfl
def Zfn (a b : Dt) : Bool := (a.cls == 2 && isZD b) || (isZD a && b.cls == 2)
def mulO (f : Int) (a b : Dt) : Option Oc :=
  if Zfn a b = true then none
  else if a.cls = 2 ∨ b.cls = 2 then some (.sp ⟨infD f (a.neg != b.neg), 0⟩)
  else some (.ex (dtZ a * dtZ b) 1 (a.exp + b.exp) (a.neg != b.neg) (a.exp + b.exp))
theorem Zhp {d : Dt} (h : isZD d = true) : (d.cls == 2) = false := by
  unfold isZD at h
  have h1 : d.cls = 1 := by simp at h; exact h.1
  rw [h1]; rfl
theorem mul_find (a b : Dt) (ps : List (P4 × D)) (hps : ps = [(⟨true, false, false, true⟩, .bool true), (⟨false, true, true, false⟩, .bool true)] ∨ ps = [(⟨false, true, true, false⟩, .bool true), (⟨true, false, false, true⟩, .bool true)]) : ((Zf2 (pairD a b) ps).getD (.bool false)) = .bool (Zfn a b) := by
  have hA := Zhp (d := a);have hB := Zhp (d := b);unfold pairD Zfn;generalize (a.cls == 2) = p at *;generalize (b.cls == 2) = q at *;generalize isZD a = u at *;generalize isZD b = v at *
  rcases hps with rfl | rfl <;> cases p <;> cases q <;> cases u <;> cases v <;> simp_all [Zf2]
theorem Zl0 (f dir : Int) (a b : Dt) (m n : Nat) (ha : dtF f a m) (hb : dtF f b n) : PC C 78 [fmtD f dir, .sl 2 (Z5 [a, b])] (fun o => o = Zim (mulO f a b)) := by
  refine Znr Tryz.func78 Tryz.ntmps78 Tryz.results78 ?_;refine go ?_;refine zzb ?_;refine go ?_;refine ZnF (n := 10) (fun S : Nat → Bool => _) [(6, 5, 25, [.int .i64 0, .int .i64 0, .bool false, .nilsl, .int .i64 0], some (8, dtC a)), (7, 6, 25, [.int .i64 0, .int .i64 0, .bool false, .nilsl, .int .i64 0], some (9, dtC b))] (fun _ => False) (sk := [(6, some 8), (7, some 9)]) mixC rfl rfl (by kernel_rfl) rfl (by kernel_rfl) rfl rfl (fun _ _ _ h => h.elim) ?_;refine DChG.op rfl (fun _ => ZaH rfl) (fun _ => rfl) rfl rfl ?_;refine DChG.op rfl (fun _ => Zm rfl rfl rfl rfl (by decide) (by decide) (by simp [Z5]) rfl) (fun _ => rfl) rfl rfl ?_;refine DChG.op rfl (fun _ => Ze rfl rfl rfl rfl rfl) (fun _ => rfl) rfl rfl ?_;refine DChG.op rfl (fun _ => ZaH rfl) (fun _ => rfl) rfl rfl ?_;refine DChG.op rfl (fun _ => Zm rfl rfl rfl rfl (by decide) (by decide) (by simp [Z5]) rfl) (fun _ => rfl) rfl rfl ?_;refine DChG.op rfl (fun _ => Ze rfl rfl rfl rfl rfl) (fun _ => rfl) rfl rfl ?_;refine .al rfl rfl rfl rfl (fun _ => rfl) rfl rfl rfl ?_;refine .al rfl rfl rfl rfl (fun _ => rfl) rfl rfl rfl ?_;refine .sp (j := 6) rfl rfl rfl rfl rfl rfl rfl (fun _ => rfl) rfl rfl rfl (by kernel_rfl) ?_;refine .sp (j := 7) rfl rfl rfl rfl rfl rfl rfl (fun _ => rfl) rfl rfl rfl (by kernel_rfl) ?_;refine .nil (fun hG => ZnH (as' := [(6, 5, 25, dtC a), (7, 6, 25, dtC b)]) rfl ?_);refine AOps.nil (ARun.seq ?_);apply ZnZ (⟨true, false, false, true⟩, .bool true) (⟨false, true, true, false⟩, .bool true)
  · intro cont
    refine ZnS 7 mixC (by kernel_rfl) (by kernel_rfl) (allOf (by kernel_rfl : _ = [[0, 1, 2, 3, 4, 5, 6], [0, 1, 3, 2, 4, 5, 6], [0, 1, 3, 4, 2, 5, 6], [0, 3, 1, 2, 4, 5, 6], [0, 3, 1, 4, 2, 5, 6], [0, 3, 4, 1, 2, 5, 6], [1, 0, 2, 3, 4, 5, 6], [1, 0, 3, 2, 4, 5, 6], [1, 0, 3, 4, 2, 5, 6], [1, 3, 0, 2, 4, 5, 6], [1, 3, 0, 4, 2, 5, 6], [3, 0, 1, 2, 4, 5, 6], [3, 0, 1, 4, 2, 5, 6], [3, 0, 4, 1, 2, 5, 6], [3, 1, 0, 2, 4, 5, 6], [3, 1, 0, 4, 2, 5, 6]]) (Zac ?_ (Zac ?_ (Zac ?_ (Zac ?_ (Zac ?_ (Zac ?_ (Zac ?_ (Zac ?_ (Zac ?_ (Zac ?_ (Zac ?_ (Zac ?_ (Zac ?_ (Zac ?_ (Zac ?_ (Zac ?_ nilAll)))))))))))))))))
    all_goals (repeat (refine yo_at ?_;first | refine Zew rfl (ZeI (kt := Z8) (et := 4) (by kernel_rfl) (.inl rfl)) ?_ | refine yo_op rfl (Zal rfl rfl rfl rfl rfl) ?_ | refine Zew rfl (Zbh (k := ⟨true, false, false, true⟩) (ps := []) (kt := Z8) (et := 4) Zgz (.inl rfl) (by kernel_rfl) rfl rfl rfl rfl rfl) ?_ | refine Zew rfl (Zbh (k := ⟨false, true, true, false⟩) (ps := [(⟨true, false, false, true⟩, .bool true)]) (kt := Z8) (et := 4) Zgz (.inl rfl) (by kernel_rfl) rfl rfl rfl rfl rfl) ?_ | refine yo_op rfl (ZaH rfl) ?_ | refine yo_op rfl (Za4 rfl) ?_ | refine Zew rfl (Zbh (k := ⟨false, true, true, false⟩) (ps := []) (kt := Z8) (et := 4) Zgz (.inl rfl) (by kernel_rfl) rfl rfl rfl rfl rfl) ?_ | refine Zew rfl (Zbh (k := ⟨true, false, false, true⟩) (ps := [(⟨false, true, true, false⟩, .bool true)]) (kt := Z8) (et := 4) Zgz (.inl rfl) (by kernel_rfl) rfl rfl rfl rfl rfl) ?_));refine yo_nil ?_;first | exact cont _ (.inl rfl) | exact cont _ (.inr rfl)
  intro ps hps;refine go ?_;refine Zc rfl rfl (ZgV a b) ?_;refine Za rfl (Zkf (kt := Z8) (et := 4) (ps := ps) Zgz (by kernel_rfl) rfl rfl rfl rfl rfl (mul_find a b ps hps)) ?_;refine zzn ?_;refine Zan rfl (ZQ rfl rfl (ZnI (ZbE _))) (fun hg => ?_) (fun q hq => by obtain ⟨hq, rfl⟩ := hq; exact ⟨_, _, .same _, rfl, by unfold mulO; rw [if_pos (by simpa using hq)]; rfl⟩);refine go ?_;refine Zc rfl rfl (Z3 a) ?_;refine Zr ?_;apply ZnB 27 (fun sj1 => [(27, .any), (28, .any), (29, .any), (30, .bool sj1)]) rfl
  · intro hj1 run1
    try replace hj1 := Zh hj1
    refine Zg ?_; refine Zg ?_; refine ZK ?_;exact AOps.ag run1
  · intro hj1 run1
    try replace hj1 := Zj hj1
    refine zzL ?_;refine Zc rfl rfl (Z3 b) ?_;refine ZK ?_;exact AOps.ag run1
  refine AOps.nil ?_;refine ARun.cond rfl (fun h => ?_) (fun h => ?_)
  · skip
    have hg : ¬ Zfn a b = true := by simpa using hg
    have h : a.cls = 2 ∨ b.cls = 2 := by simpa using h
    refine gn ?_;refine Za rfl (Zbu rfl rfl rfl) ?_;refine Zc rfl rfl (Zbw f dir (a.neg != b.neg) 0) ?_;refine Za rfl (ZH rfl rfl rfl) ?_;refine go ?_;refine Zno ?_;unfold mulO;rw [if_neg hg, if_pos h]; try rfl
  have hg : ¬ Zfn a b = true := by simpa using hg
  have h : ¬ (a.cls = 2 ∨ b.cls = 2) := by simpa using h
  refine go ?_;refine Zc rfl rfl (ZjT f a b m n ha hb) ?_;refine Za rfl (ZH rfl rfl rfl) ?_;refine go ?_;refine Zno ?_;unfold mulO;rw [if_neg hg, if_neg h]; try rfl
theorem sgd_and (s : Bool) (n : Nat) : (s && decide ((((lim n).length : Nat) : Int) > 0)) = decide (sgnd s n < 0) := by
  rw [ZaO]
  congr 1
  exact decide_eq_decide.2 ⟨fun h => by have := ZB.1 (show 0 < (lim n).length by omega); omega, fun h => by have := ZB.2 (show n ≠ 0 by omega); omega⟩
def Zfo (a b : Dt) : Bool := (a.cls == 2 && b.cls == 2) || (isZD a && isZD b)
def divO (f : Int) (a b : Dt) : Option Oc :=
  if Zfo a b = true then none
  else if a.cls = 2 then some (.sp ⟨infD f (a.neg != b.neg), 0⟩)
  else if b.cls = 2 then some (.ex 0 1 0 (a.neg != b.neg) (fLo f))
  else if isZD b = true then some (.sp ⟨infD f (a.neg != b.neg), 2⟩)
  else some (.ex (sgnd (a.neg != b.neg) (val a.coef)) (val b.coef) (a.exp - b.exp) (a.neg != b.neg) (a.exp - b.exp))
theorem div_find (a b : Dt) (ps : List (P4 × D)) (hps : ps = [(⟨true, false, true, false⟩, .bool true), (⟨false, true, false, true⟩, .bool true)] ∨ ps = [(⟨false, true, false, true⟩, .bool true), (⟨true, false, true, false⟩, .bool true)]) : ((Zf2 (pairD a b) ps).getD (.bool false)) = .bool (Zfo a b) := by
  have hA := Zhp (d := a);have hB := Zhp (d := b);unfold pairD Zfo;generalize (a.cls == 2) = p at *;generalize (b.cls == 2) = q at *;generalize isZD a = u at *;generalize isZD b = v at *
  rcases hps with rfl | rfl <;> cases p <;> cases q <;> cases u <;> cases v <;> simp_all [Zf2]
theorem ex_zero (d : Nat) (e : Int) (s : Bool) (p : Int) : D.iface ZE (.agg [.bool false, .sl 0 [], numD d, .int .i64 e, .bool s, .int .i64 p]) = ocD (.ex 0 d e s p) := by
  show _ = D.iface ZE (exD _ _ _ _ _);unfold exD;rw [show numD (0 : Int).natAbs = .sl 0 [] from by show numD 0 = _; unfold numD; rw [ZA]; rfl];rfl
theorem Zl1 (f dir : Int) (a b : Dt) (m n : Nat) (ha : dtF f a m) (hb : dtF f b n) : PC C 84 [fmtD f dir, .sl 2 (Z5 [a, b])] (fun o => o = Zim (divO f a b)) := by
  have h1 := ha.e1; have h2 := ha.e2; have h3 := hb.e1; have h4 := hb.e2
  have hv : divO f a b = (if Zfo a b = true then none
      else if a.cls = 2 then some (.sp ⟨infD f (a.neg != b.neg), 0⟩)
      else if b.cls = 2 then some (.ex 0 1 0 (a.neg != b.neg) (fLo f))
      else if isZD b = true then some (.sp ⟨infD f (a.neg != b.neg), 2⟩)
      else some (.ex (sgnd (a.neg != b.neg) m) n (a.exp - b.exp) (a.neg != b.neg) (a.exp - b.exp))) := by
    unfold divO; rw [ha.co, hb.co, Zl, Zl]
  rw [hv]
  have fin : ∀ s : Bool, D.iface ZE (.agg [.bool (s && decide (((((lim m).length : Nat) : Int)) > 0)), numD m, numD n, .int .i64 (a.exp - b.exp), .bool s, .int .i64 (a.exp - b.exp)]) = ocD (.ex (sgnd s m) n (a.exp - b.exp) s (a.exp - b.exp)) := fun s => by
    rw [sgd_and]; show _ = D.iface ZE (exD _ _ _ _ _); rw [exD, Zw]
  clear hv;have hac := ha.co;have hbc := hb.co;clear ha hb;obtain ⟨fa, ca, sa, xa, ea⟩ := a;obtain ⟨fb, cb, sb, xb, eb⟩ := b;obtain rfl : xa = lim m := hac;obtain rfl : xb = lim n := hbc;dsimp only at h1 h2 h3 h4 fin ⊢;have hZ : isZD ⟨fb, cb, sb, lim n, eb⟩ = (cb == 1 && ((((lim n).length : Nat) : Int) == 0)) := rfl;refine Znr Tryz.func84 Tryz.ntmps84 Tryz.results84 ?_;refine go ?_;refine zzb ?_;refine go ?_;refine ZnF (n := 10) (fun S : Nat → Bool => _) [(6, 5, 25, [.int .i64 0, .int .i64 0, .bool false, .nilsl, .int .i64 0], some (8, dtC ⟨fa, ca, sa, lim m, ea⟩)), (7, 6, 25, [.int .i64 0, .int .i64 0, .bool false, .nilsl, .int .i64 0], some (9, dtC ⟨fb, cb, sb, lim n, eb⟩))] (fun _ => False) (sk := [(6, some 8), (7, some 9)]) mixC rfl rfl (by kernel_rfl) rfl (by kernel_rfl) rfl rfl (fun _ _ _ h => h.elim) ?_;refine DChG.op rfl (fun _ => ZaH rfl) (fun _ => rfl) rfl rfl ?_;refine DChG.op rfl (fun _ => Zm rfl rfl rfl rfl (by decide) (by decide) (by simp [Z5]) rfl) (fun _ => rfl) rfl rfl ?_;refine DChG.op rfl (fun _ => Ze rfl rfl rfl rfl rfl) (fun _ => rfl) rfl rfl ?_;refine DChG.op rfl (fun _ => ZaH rfl) (fun _ => rfl) rfl rfl ?_;refine DChG.op rfl (fun _ => Zm rfl rfl rfl rfl (by decide) (by decide) (by simp [Z5]) rfl) (fun _ => rfl) rfl rfl ?_;refine DChG.op rfl (fun _ => Ze rfl rfl rfl rfl rfl) (fun _ => rfl) rfl rfl ?_;refine .al rfl rfl rfl rfl (fun _ => rfl) rfl rfl rfl ?_;refine .al rfl rfl rfl rfl (fun _ => rfl) rfl rfl rfl ?_;refine .sp (j := 6) rfl rfl rfl rfl rfl rfl rfl (fun _ => rfl) rfl rfl rfl (by kernel_rfl) ?_;refine .sp (j := 7) rfl rfl rfl rfl rfl rfl rfl (fun _ => rfl) rfl rfl rfl (by kernel_rfl) ?_;refine .nil (fun hG => ZnH (as' := [(6, 5, 25, dtC ⟨fa, ca, sa, lim m, ea⟩), (7, 6, 25, dtC ⟨fb, cb, sb, lim n, eb⟩)]) rfl ?_);refine gn ?_;refine Za rfl (Zbu rfl rfl rfl) ?_;refine zza ?_; refine AOps.nil (ARun.seq ?_);apply ZnZ (⟨true, false, true, false⟩, .bool true) (⟨false, true, false, true⟩, .bool true)
  · intro cont
    refine ZnS 7 mixC (by kernel_rfl) (by kernel_rfl) (allOf (by kernel_rfl : _ = [[0, 1, 2, 3, 4, 5, 6], [0, 1, 3, 2, 4, 5, 6], [0, 1, 3, 4, 2, 5, 6], [0, 3, 1, 2, 4, 5, 6], [0, 3, 1, 4, 2, 5, 6], [0, 3, 4, 1, 2, 5, 6], [1, 0, 2, 3, 4, 5, 6], [1, 0, 3, 2, 4, 5, 6], [1, 0, 3, 4, 2, 5, 6], [1, 3, 0, 2, 4, 5, 6], [1, 3, 0, 4, 2, 5, 6], [3, 0, 1, 2, 4, 5, 6], [3, 0, 1, 4, 2, 5, 6], [3, 0, 4, 1, 2, 5, 6], [3, 1, 0, 2, 4, 5, 6], [3, 1, 0, 4, 2, 5, 6]]) (Zac ?_ (Zac ?_ (Zac ?_ (Zac ?_ (Zac ?_ (Zac ?_ (Zac ?_ (Zac ?_ (Zac ?_ (Zac ?_ (Zac ?_ (Zac ?_ (Zac ?_ (Zac ?_ (Zac ?_ (Zac ?_ nilAll)))))))))))))))))
    all_goals (repeat (refine yo_at ?_;first | refine Zew rfl (ZeI (kt := Z8) (et := 4) (by kernel_rfl) (.inl rfl)) ?_ | refine yo_op rfl (Zal rfl rfl rfl rfl rfl) ?_ | refine Zew rfl (Zbh (k := ⟨true, false, true, false⟩) (ps := []) (kt := Z8) (et := 4) Zgz (.inl rfl) (by kernel_rfl) rfl rfl rfl rfl rfl) ?_ | refine Zew rfl (Zbh (k := ⟨false, true, false, true⟩) (ps := [(⟨true, false, true, false⟩, .bool true)]) (kt := Z8) (et := 4) Zgz (.inl rfl) (by kernel_rfl) rfl rfl rfl rfl rfl) ?_ | refine yo_op rfl (ZaH rfl) ?_ | refine yo_op rfl (Za4 rfl) ?_ | refine Zew rfl (Zbh (k := ⟨false, true, false, true⟩) (ps := []) (kt := Z8) (et := 4) Zgz (.inl rfl) (by kernel_rfl) rfl rfl rfl rfl rfl) ?_ | refine Zew rfl (Zbh (k := ⟨true, false, true, false⟩) (ps := [(⟨false, true, false, true⟩, .bool true)]) (kt := Z8) (et := 4) Zgz (.inl rfl) (by kernel_rfl) rfl rfl rfl rfl rfl) ?_));refine yo_nil ?_;first | exact cont _ (.inl rfl) | exact cont _ (.inr rfl)
  intro ps hps;refine go ?_;refine Zc rfl rfl (ZgV ⟨fa, ca, sa, lim m, ea⟩ ⟨fb, cb, sb, lim n, eb⟩) ?_;refine Za rfl (Zkf (kt := Z8) (et := 4) (ps := ps) Zgz (by kernel_rfl) rfl rfl rfl rfl rfl (div_find ⟨fa, ca, sa, lim m, ea⟩ ⟨fb, cb, sb, lim n, eb⟩ ps hps)) ?_;refine zzn ?_;refine Zan rfl (ZQ rfl rfl (ZnI (ZbE _))) (fun hg => ?_) (fun q hq => by obtain ⟨hq, rfl⟩ := hq; exact ⟨_, _, .same _, rfl, by rw [if_pos (by simpa using hq)]; rfl⟩);refine go ?_;refine Zc rfl rfl (Z3 ⟨fa, ca, sa, lim m, ea⟩) ?_;refine go ?_;refine ARun.cond rfl (fun h => ?_) (fun h => ?_)
  · skip
    have hg : ¬ Zfo ⟨fa, ca, sa, lim m, ea⟩ ⟨fb, cb, sb, lim n, eb⟩ = true := by simpa using hg
    have h : ca = 2 := by simpa using h
    refine go ?_;refine Zc rfl rfl (Zbw f dir (sa != sb) 0) ?_;refine Za rfl (ZH rfl rfl rfl) ?_;refine go ?_;refine Zno ?_;rw [if_neg hg, if_pos h]; try rfl
  have hg : ¬ Zfo ⟨fa, ca, sa, lim m, ea⟩ ⟨fb, cb, sb, lim n, eb⟩ = true := by simpa using hg
  have h : ¬ ca = 2 := by simpa using h
  refine go ?_;refine Zc rfl rfl (Z3 ⟨fb, cb, sb, lim n, eb⟩) ?_;refine go ?_;refine ARun.cond rfl (fun h2 => ?_) (fun h2 => ?_)
  · skip
    have h2 : cb = 2 := by simpa using h2
    refine gn ?_;refine Za rfl (Znq (Zd rfl rfl rfl rfl rfl rfl rfl rfl rfl rfl rfl (by decide) (by decide) rfl) ZO) ?_;refine gn ?_;refine Za rfl (ZH rfl rfl rfl) ?_;refine go ?_;refine ARun.ret ?_;refine ⟨_, _, _, .tmp rfl .nil, .cons (.iface (.agg (.cons (.same _) (.cons .nil (.cons (.same _) (.cons (.same _) (.cons (.same _) (.cons (.same _) .nil)))))))) .nil, rfl, ?_⟩;rw [if_neg hg, if_neg h, if_pos h2]; exact congrArg Out.ret (ex_zero _ _ _ _)
  have h2 : ¬ cb = 2 := by simpa using h2
  refine go ?_;refine Zc rfl rfl (Zcg ⟨fb, cb, sb, lim n, eb⟩) ?_;refine go ?_;refine ARun.cond rfl (fun h5 => ?_) (fun h5 => ?_)
  · skip
    refine go ?_;refine Zc rfl rfl (Zbw f dir (sa != sb) 2) ?_;refine Za rfl (ZH rfl rfl rfl) ?_;refine go ?_;refine Zno ?_;rw [if_neg hg, if_neg h, if_neg h2, if_pos (by rw [hZ]; exact h5)]; try rfl
  refine ARun.skip (ARun.inBlock (zzs ?_)); refine Zr ?_; refine Zr ?_;apply Znu 55 (fun sj1 => [(55, .any), (56, .any), (57, .any), (58, .any), (59, .any), (60, .bool sj1)]) rfl
  · intro hj1 run1
    try replace hj1 := Zh hj1
    refine zzf ?_; refine zzl ?_; refine zzN ?_; refine zzi ?_; refine ZK ?_;exact AOps.ag run1
  · intro hj1 run1
    try replace hj1 := Zj hj1
    refine Zg ?_; refine Zg ?_; refine Zg ?_; refine Zg ?_; refine ZK ?_;exact AOps.ag run1
  refine gn ?_;refine Za rfl (Zk rfl rfl (IntWalk.i64_in _ (by dsimp only; omega))) ?_;refine gn ?_;refine Za rfl (Zk rfl rfl (IntWalk.i64_in _ (by dsimp only; omega))) ?_;refine zzB ?_;refine Za rfl (ZH rfl rfl rfl) ?_;refine go ?_;refine Zno ?_;rw [if_neg hg, if_neg h, if_neg h2, if_neg (by rw [hZ]; intro h6; rw [h6] at h5; cases h5)];exact congrArg Out.ret (fin (sa != sb))
theorem mulO_W {f : Int} {a b : Dt} {m n : Nat} (ha : dtF f a m) (hb : dtF f b n) : ∀ x, mulO f a b = some x → ocW f x := by
  intro x hx;have hp := ZW f;have h1 := ha.e1; have h2 := ha.e2; have h3 := hb.e1; have h4 := hb.e2;unfold mulO at hx
  split at hx
  · cases hx
  split at hx
  · injection hx with hx; subst hx; exact Nat.zero_le _
  injection hx with hx; subst hx
  refine ⟨?_, Nat.one_pos, Nat.one_lt_pow (by omega) (by omega), by omega, by omega⟩;rw [Int.natAbs_mul, ha.ab, hb.ab];exact ZG (by rw [Nat.pow_add]; exact Nat.mul_lt_mul'' ha.lt hb.lt : m * n < 10 ^ (fP f + fP f)) (by omega)
theorem Zc4 {d : Dt} (h : okD d = true) (h3 : isN d = false) (h2 : ¬ d.cls = 2) : d.cls = 1 := by
  unfold okD at h;simp only [Bool.and_eq_true] at h;have hv := h.2;unfold isN at h3;simp only [Bool.or_eq_false_iff, beq_eq_false_iff_ne] at h3;unfold okV at hv
  by_cases h1 : d.cls = 1
  · exact h1
  rw [if_neg h1, if_neg h2] at hv
  split at hv
  · rename_i h4; exact absurd h4 (by intro h5; rcases h5 with h5 | h5; exact h3.1 h5; exact h3.2 h5)
  cases hv
theorem divO_W {f : Int} {a b : Dt} {m n : Nat} (ha : dtF f a m) (hb : dtF f b n) (hbo : okD b = true) (hnb : isN b = false) : ∀ x, divO f a b = some x → ocW f x := by
  intro x hx;have hp := ZW f;have h1 := ha.e1; have h2 := ha.e2; have h3 := hb.e1; have h4 := hb.e2;unfold divO at hx
  split at hx
  · cases hx
  split at hx
  · injection hx with hx; subst hx; exact Nat.zero_le _
  split at hx
  · injection hx with hx; subst hx
    exact ⟨Nat.pow_pos (by omega), Nat.one_pos, Nat.one_lt_pow (by omega) (by omega), by omega, by omega⟩
  split at hx
  · injection hx with hx; subst hx; exact Nat.zero_le _
  rename_i hb2 hz
  injection hx with hx; subst hx
  rw [ha.co, hb.co, Zl, Zl];have hc := Zc4 hbo hnb hb2
  have hz' : n ≠ 0 := fun h0 => hz (by unfold isZD; rw [hc, hb.co, lenz, h0]; rfl)
  exact ⟨by rw [Zw]; exact ZG ha.lt (by omega), by omega, hb.lt, by omega, by omega⟩
theorem Zkg (a b : Dt) (dir : Int) (ha : U32 a.coef ∧ a.coef.length ≤ 35184372088832) (hb : U32 b.coef ∧ b.coef.length ≤ 35184372088832) : PC Cd 24 [dtD a, dtD b, .int .i64 dir] (fun o => o = .ret (.tup [rsD (ZR a [a, b] dir (mulO a.fmt a b)).1, .int .i64 (ZR a [a, b] dir (mulO a.fmt a b)).2])) := by
  have hD := ZcJ a [b] 2 dir 78 (mulO a.fmt a b) rfl (ZeW ha hb) (fun h _ => by
    obtain ⟨hf, m, n, hm, hn⟩ := ZbQ ha.1 hb.1 h
    exact PC.gl (Zl0 a.fmt dir a b m n hm hn)) (fun h _ => by
    obtain ⟨hf, m, n, hm, hn⟩ := ZbQ ha.1 hb.1 h
    exact mulO_W hm hn)
  refine Znr Tryz.func24 Tryz.ntmps24 Tryz.results24 ?_;refine go ?_;refine zzb ?_; refine zzb ?_;refine go ?_;refine Za rfl (Zd rfl rfl rfl rfl rfl rfl rfl rfl rfl rfl rfl (by decide) (by decide) rfl) ?_;refine Zc rfl rfl (hD) ?_;refine go ?_;refine ARun.ret ?_;refine ⟨_, _, _, Znt rfl rfl rfl rfl rfl rfl (.tmp rfl .nil), .cons (.same _) (.cons (.same _) .nil), rfl, ?_⟩;rfl
theorem ZhJ (a b : Dt) (dir : Int) (ha : U32 a.coef ∧ a.coef.length ≤ 35184372088832) (hb : U32 b.coef ∧ b.coef.length ≤ 35184372088832) : PC Cd 25 [dtD a, dtD b, .int .i64 dir] (fun o => o = .ret (.tup [rsD (ZR a [a, b] dir (divO a.fmt a b)).1, .int .i64 (ZR a [a, b] dir (divO a.fmt a b)).2])) := by
  have hD := ZcJ a [b] 2 dir 84 (divO a.fmt a b) rfl (ZeW ha hb) (fun h _ => by
    obtain ⟨hf, m, n, hm, hn⟩ := ZbQ ha.1 hb.1 h
    exact PC.gl (Zl1 a.fmt dir a b m n hm hn)) (fun h hN => by
    obtain ⟨hf, m, n, hm, hn⟩ := ZbQ ha.1 hb.1 h;obtain ⟨hdr, hall, hfm⟩ := Zbn h;simp only [List.all_cons, List.all_nil, Bool.and_true, Bool.and_eq_true, decide_eq_true_eq] at hall;have h2 := (Zf1 hN).1;simp at h2
    exact divO_W hm hn hall.2 (by simpa using h2.2))
  refine Znr Tryz.func25 Tryz.ntmps25 Tryz.results25 ?_;refine go ?_;refine zzb ?_; refine zzb ?_;refine go ?_;refine Za rfl (Zd rfl rfl rfl rfl rfl rfl rfl rfl rfl rfl rfl (by decide) (by decide) rfl) ?_;refine Zc rfl rfl (hD) ?_;refine go ?_;refine ARun.ret ?_;refine ⟨_, _, _, Znt rfl rfl rfl rfl rfl rfl (.tmp rfl .nil), .cons (.same _) (.cons (.same _) .nil), rfl, ?_⟩;rfl
theorem mid_sq (u v : Nat) : 4 * (u * v) ≤ (u + v) * (u + v) := by
  rcases Nat.le_total u v with h | h
  · obtain ⟨d, rfl⟩ := Nat.le.dest h
    have : (u + (u + d)) * (u + (u + d)) = 4 * (u * (u + d)) + d * d := by
      simp only [Nat.mul_add, Nat.add_mul, Nat.mul_comm d u]; omega
    omega
  obtain ⟨d, rfl⟩ := Nat.le.dest h
  have : (v + d + v) * (v + d + v) = 4 * ((v + d) * v) + d * d := by
    simp only [Nat.mul_add, Nat.add_mul, Nat.mul_comm d v]; omega
  omega
theorem newton {a x y : Nat} (hx : 0 < x) (hy : y = (x + a / x) / 2) : a < (y + 1) * (y + 1) := by
  apply Classical.byContradiction;intro h
  have h1 : a < x * (a / x + 1) := by rw [Nat.mul_comm]; exact Nat.lt_mul_of_div_lt (Nat.lt_succ_self _) hx
  have h2 := mid_sq x (a / x + 1)
  have h3 : x + (a / x + 1) ≤ 2 * (y + 1) := by omega
  have h4 := Nat.mul_le_mul h3 h3
  have h5 : 2 * (y + 1) * (2 * (y + 1)) = 4 * ((y + 1) * (y + 1)) := by
    generalize (y + 1) = z;rw [Nat.mul_mul_mul_comm]
  generalize (y + 1) * (y + 1) = P at h h4 h5;generalize x * (a / x + 1) = Q at h1 h2;omega
theorem newton_end {a x : Nat} (hx : 0 < x) (h1 : a < (x + 1) * (x + 1)) (h2 : x ≤ (x + a / x) / 2) : IsR a x := by
  refine ⟨?_, h1⟩
  have h3 : x ≤ a / x := by omega
  exact (Nat.le_div_iff_mul_le hx).1 h3
theorem ln_pow2 {a k : Nat} (h : a < 2 ^ (32 * k)) : (lim a).length ≤ k := Zgu (by rw [ZdH]; exact h)
def isq : Nat → Nat
  | 0 => 0
  | a + 1 => if (isq a + 1) * (isq a + 1) ≤ a + 1 then isq a + 1 else isq a
theorem Zfy : ∀ a, IsR a (isq a)
  | 0 => ⟨Nat.le_refl _, Nat.one_pos⟩
  | a + 1 => by
    obtain ⟨h1, h2⟩ := Zfy a;unfold isq
    split
    · rename_i h
      refine ⟨h, ?_⟩;have : (isq a + 1) * (isq a + 1) < (isq a + 1 + 1) * (isq a + 1 + 1) := Nat.mul_lt_mul'' (by omega) (by omega);omega
    exact ⟨by omega, by omega⟩
theorem Zlu (a : Nat) (ha : (lim a).length ≤ 1024) (h0 : 0 < a) : PC C 171 [numD a, .int .i64 2] (fun o => o = .ret (numD (isq a))) := by
  have hbl := Zbk a;have hb1 : 1 ≤ bl a := ZfO.2 (by rw [Nat.pow_zero]; exact h0);have hsh := Zb5 1 (bl a / 2 + 1) (by rw [Zbl]; decide) (by omega);rw [Nat.one_mul, ← ZO] at hsh
  have h2k : a < 2 ^ (bl a / 2 + 1) * 2 ^ (bl a / 2 + 1) := by
    rw [← Nat.pow_add];exact Nat.lt_of_lt_of_le (lt_bl a) (Nat.pow_le_pow_right (by omega) (by omega))
  obtain ⟨kk, hkk⟩ : ∃ kk, kk = 2000 := ⟨_, rfl⟩;have hX : (lim (2 ^ (bl a / 2 + 1))).length ≤ kk := ln_pow2 (Nat.pow_lt_pow_right (by omega) (by omega));generalize hXe : 2 ^ (bl a / 2 + 1) = X at hsh h2k hX
  have hX0 : 0 < X := by rw [← hXe]; exact Nat.pow_pos (by omega)
  have hl0 := ZB.2 (show a ≠ 0 by omega);have hR := Zfy a;refine Znr Tryz.func171 Tryz.ntmps171 Tryz.results171 ?_;refine zzs ?_; refine zza ?_; refine AOps.nil (ARun.seq (zzs ?_)); refine Zr ?_; refine zzi ?_; refine Zr ?_;apply ZnB 12 (fun sj1 => [(12, .any), (13, .any), (14, .any), (15, .any), (16, .bool sj1)]) rfl
  · intro hj1 run1
    try replace hj1 := Zh hj1
    refine Zg ?_; refine Zg ?_; refine Zg ?_; refine ZK ?_;exact AOps.ag run1
  · intro hj1 run1
    try replace hj1 := Zj hj1
    refine Zr ?_; refine zzN ?_; refine zzi ?_; refine ZK ?_;exact AOps.ag run1
  refine AOps.nil ?_;refine ARun.cond rfl (fun h => ?_) (fun h => ?_)
  · skip
    exfalso
    have h : ((2 : Int) == 1 || (((lim a).length : Nat) : Int) == 0) = true := h;rw [Bool.or_eq_true] at h
    rcases h with h | h
    · exact absurd h (by decide)
    have := eq_of_beq h; omega
  refine go ?_;refine Zc rfl rfl (ZcQ a (by omega)) ?_;refine go ?_;refine ARun.cond rfl (fun h => ?_) (fun h => ?_)
  · skip
    have h : bl a ≤ 2 := by have := Zh h; omega
    have h8 := Zby.1 h;refine go ?_;refine Za rfl (Zd rfl rfl rfl rfl rfl rfl rfl rfl rfl rfl rfl (by decide) (by decide) rfl) ?_;refine go ?_;refine Zno ?_;have : IsR a 1 := ⟨by omega, by omega⟩;rw [← this.uniq hR, ← ZO]; try rfl
  refine go ?_;refine Za rfl (Zd rfl rfl rfl rfl rfl rfl rfl rfl rfl rfl rfl (by decide) (by decide) rfl) ?_;refine Zr ?_;refine Zc rfl rfl (ZcQ a (by omega)) ?_;refine Zr ?_;refine Za rfl (ZaQ rfl rfl (by omega) (r := ((bl a / 2 : Nat) : Int)) (Zay (n := 2) rfl (by omega))) ?_;refine Za rfl (Zf rfl rfl (r := ((bl a / 2 + 1 : Nat) : Int)) (by rw [IntWalk.i64_in _ (by omega)]; omega)) ?_;refine Zc rfl rfl (hsh) ?_;refine go ?_;refine Znw (S := Nat) (fun x : Nat => [(4, .any), (6, .any), (7, .any), (8, .any), (9, .any), (30, .any), (31, .any), (32, .any), (33, .any), (34, .any), (35, .any), (36, .any), (37, .any), (38, .any), (39, .any), (40, .any), (41, .any), (42, .any), (43, .any), (44, .any), (45, .any), (46, .any), (47, .any), (48, .any), (49, .any), (50, .any), (51, .any), (52, .any), (53, .any), (54, .any), (55, .any), (56, .any), (57, .any), (58, .any), (59, .any), (5, numD x)]) (fun x : Nat => []) (fun x : Nat => x ≤ X ∧ 0 < x ∧ a < (x + 1) * (x + 1)) (fun x : Nat => x) (X) ?_ ?_
  · exact ⟨Nat.le_refl _, hX0, Nat.lt_of_lt_of_le h2k (Nat.mul_le_mul (by omega) (by omega))⟩
  rintro x hinv ih;obtain ⟨i1, i2, i3⟩ := hinv;have hxl := Nat.le_trans (Zn i1) hX;have hpw := ZgF x 1 (by omega) (by omega) (by rw [Nat.pow_one]; omega);rw [Nat.pow_one] at hpw;have hdl := Zn (Nat.div_le_self a x);have hml := Zco x 1;have hal := Zev x (a / x);have hm1 := Zd2 x 1 (by omega) (by rw [Zbl]; decide);rw [Nat.mul_one] at hm1;refine gn ?_;refine Za rfl (Zk rfl rfl (IntWalk.i64_in _ (by omega))) ?_;refine Zc rfl rfl (hpw) ?_;refine Zc rfl rfl (ZcR ZbI a x (by omega) (by omega) i2) ?_;refine gn ?_;refine Za rfl (Zk rfl rfl (IntWalk.i64_in _ (by omega))) ?_;refine Za rfl (Zo rfl rfl rfl (r := 1) (by decide)) ?_;refine Zc rfl rfl (Zf7 1 (by decide)) ?_;refine Zc rfl rfl (hm1) ?_;refine Zr ?_;refine Zc rfl rfl (ZaI x (a / x) (by omega) (by omega)) ?_;refine Zr ?_;refine Za rfl (Zo rfl rfl rfl (r := 2) (by decide)) ?_;refine Zc rfl rfl (Zf7 2 (by decide)) ?_;refine Zc rfl rfl (ZcR ZbI (x + a / x) 2 (by omega) (Nat.le_trans (Zgu (k := 1) (by decide)) (by omega)) (by omega)) ?_;refine go ?_;refine Zc rfl rfl (ZbI ((x + a / x) / 2) x (Nat.le_trans (Zn (Nat.div_le_self _ _)) (by omega)) (by omega)) ?_;refine go ?_;refine ARun.cond rfl (fun h5 => ?_) (fun h5 => ?_)
  · skip
    have h5 : x ≤ (x + a / x) / 2 := by
      apply Classical.byContradiction;intro h6;have := ZdR.2 (show (x + a / x) / 2 < x by omega);have := Zh h5;omega
    refine go ?_;refine Zno ?_;rw [← (newton_end i2 i3 h5).uniq hR]; try rfl
  have h5 : (x + a / x) / 2 < x := ZdR.1 (by have := Zj h5; omega)
  have h9 : 0 < (x + a / x) / 2 := by
    rcases Nat.eq_zero_or_pos ((x + a / x) / 2) with h6 | h6
    · have h7 : x = 1 := by clear hal hdl hm1 h5; generalize a / x = q at h6; omega
      subst h7;rw [Nat.div_one] at h6; omega
    exact h6
  refine go ?_;refine ARun.ag (ih ((x + a / x) / 2) ?_ ?_)
  · exact ⟨by omega, h9, newton i2 rfl⟩
  exact h5
theorem Zlv (a : Nat) (ha : (lim a).length ≤ 1024) (h0 : 0 < a) : PC C 97 [numD a, .int .i64 2] (fun o => o = .ret (.tup [numD (isq a), numD (a - isq a * isq a), .int .i64 0])) := by
  have hR := Zfy a;have hs0 : 0 < isq a := hR.le (by omega : 1 * 1 ≤ a);have hsa : isq a ≤ a := Nat.le_trans (Nat.le_mul_of_pos_left _ hs0) hR.1;have hsl := Zn hsa;have hqq := hR.1;have hq2 := Zn hqq;have hpw := ZgF (isq a) 2 (by omega) (by omega) (by rw [Nat.pow_two]; omega);rw [Nat.pow_two] at hpw
  have hsq : (lim (isq a)).length ≤ 1024 := by omega
  have hs2 : (lim (a - isq a * isq a)).length ≤ 1024 := Nat.le_trans (Zn (Nat.sub_le _ _)) ha
  have hc1 : decide (cmpI (isq a) 1 ≤ 0) = decide (isq a ≤ 1) := by
    refine decide_eq_decide.2 ?_;unfold cmpI
    split
    · constructor <;> intro <;> omega
    split <;> constructor <;> intro <;> omega
  have hcmp : PC C 142 [numD (isq a), .sl 1 [.int .u32 1]] (fun o => o = .ret (.int .i64 (cmpI (isq a) 1))) := by
    rw [ZO]; exact ZbI (isq a) 1 (by omega) (by rw [Zbl]; decide)
  have hrt := Zlu a ha h0;generalize isq a = s at *;refine Znr Tryz.func97 Tryz.ntmps97 Tryz.results97 ?_;refine zzs ?_; refine zza ?_; refine zza ?_; refine zzA ?_; refine zzt ?_;refine Zc0 rfl rfl rfl ?_;refine go ?_;refine Za rfl (Zd rfl rfl rfl rfl rfl rfl rfl rfl rfl rfl rfl (by decide) (by decide) rfl) ?_;refine Zan rfl (ZQ rfl rfl (ZnI (Zc1 [lim a] 1 rfl))) (fun _ => ?_) (fun q hq => by obtain ⟨hq, rfl⟩ := hq; simp only [List.all_cons, List.all_nil, Bool.and_true, ZaE ha] at hq; cases hq);refine go ?_;refine Zan rfl (ZQ rfl rfl (ZnI (ZbD _ 1))) (fun _ => ?_) (fun q hq => by obtain ⟨hq, rfl⟩ := hq; cases hq);refine go ?_;refine Zc rfl rfl (hrt) ?_;refine zza ?_; refine AOps.nil (ARun.seq (zzs ?_)); refine Zr ?_; refine zzi ?_; refine Zr ?_;apply Znu 19 (fun sj1 => [(19, .any), (20, .any), (21, .any), (22, .any), (23, .any), (24, .bool sj1)]) rfl
  · intro hj1 run1
    try replace hj1 := Zh hj1
    refine Zr ?_;refine Za rfl (Zd rfl rfl rfl rfl rfl rfl rfl rfl rfl rfl rfl (by decide) (by decide) rfl) ?_;refine Zc rfl rfl (hcmp) ?_;refine Za rfl (Zb9 (b := decide (s ≤ 1)) rfl rfl rfl hc1) ?_;refine ZK ?_;exact AOps.ag run1
  · intro hj1 run1
    try replace hj1 := Zj hj1
    refine Zg ?_; refine Zg ?_; refine Zg ?_; refine Zg ?_; refine ZK ?_;exact AOps.ag run1
  refine AOps.nil ?_;refine ARun.cond rfl (fun h => ?_) (fun h => ?_)
  · skip
    have h : s ≤ 1 := by simpa using h
    have h1 : s = 1 := by omega
    subst h1;refine go ?_;refine Zan rfl (ZQ rfl rfl (ZnI (ZaU 1))) (fun hf => ?_) (fun q hq => by obtain ⟨hq, rfl⟩ := hq; exact absurd hsq hq);refine go ?_;refine Zc rfl rfl (Zb3 a 1 (by omega) hsa) ?_;refine Zan rfl (ZQ rfl rfl (ZnI (ZaU (a - 1)))) (fun hf => ?_) (fun q hq => by obtain ⟨hq, rfl⟩ := hq; exact absurd hs2 hq);refine go ?_;refine ARun.ret ?_;refine DC.mono (Zca 0) ?_;rintro _ _ ⟨rfl, rfl⟩;exact ⟨_, _, _, .tmp rfl (.tmp rfl (Znv rfl rfl rfl rfl rfl .nil)), .cons (.same _) (.cons (.same _) (.cons (.same _) .nil)), rfl, rfl⟩
  refine go ?_;refine Zan rfl (ZQ rfl rfl (ZnI (ZaU s))) (fun hf => ?_) (fun q hq => by obtain ⟨hq, rfl⟩ := hq; exact absurd hsq hq);refine go ?_;refine Zc rfl rfl (hpw) ?_;refine Zc rfl rfl (Zb3 a (s * s) (by omega) hqq) ?_;refine Zan rfl (ZQ rfl rfl (ZnI (ZaU (a - s * s)))) (fun hf => ?_) (fun q hq => by obtain ⟨hq, rfl⟩ := hq; exact absurd hs2 hq);refine go ?_;refine ARun.ret ?_;refine DC.mono (Zca 0) ?_;rintro _ _ ⟨rfl, rfl⟩;exact ⟨_, _, _, .tmp rfl (.tmp rfl (Znv rfl rfl rfl rfl rfl .nil)), .cons (.same _) (.cons (.same _) (.cons (.same _) .nil)), rfl, rfl⟩
theorem and1_z {w : Nat} (hw : 1 ≤ w) (n : Int) : (((BitVec.ofInt w n &&& BitVec.ofInt w 1).toNat : Nat) : Int) = n % 2 := by
  rw [show (1 : Int) = ((1 : Nat) : Int) from rfl, Zjh, BitVec.toNat_and, BitVec.toNat_ofNat];have h1 : 1 % 2 ^ w = 1 := Nat.mod_eq_of_lt (Nat.one_lt_two_pow (by omega));rw [h1, Nat.and_one_is_mod, BitVec.toNat_ofInt, Int.natCast_emod, Int.toNat_of_nonneg (Int.emod_nonneg _ (by have := Nat.pow_pos (n := w) (show 0 < 2 by omega); omega))];obtain ⟨k, rfl⟩ : ∃ k, w = k + 1 := ⟨w - 1, by omega⟩
  have : (((2 ^ (k + 1) : Nat)) : Int) = 2 * ((2 ^ k : Nat) : Int) := by rw [Nat.pow_succ]; push_cast; omega
  rw [this];exact Int.emod_emod_of_dvd n ⟨_, rfl⟩
theorem Zi7 (n : Int) (h : -1000000 ≤ n ∧ n ≤ 1000000) : PC C 95 [.int .i64 n] (fun o => o = .ret (.int .i64 (n / 2))) := by
  have hb : IntKind.i64.bits = 64 := rfl;refine Znr Tryz.func95 Tryz.ntmps95 Tryz.results95 ?_;refine gn ?_;refine Za rfl (q_andR rfl rfl (r := n % 2) (by rw [hb, and1_z (by decide), IntWalk.i64_in _ (by omega)])) ?_;refine Za rfl (Zk rfl rfl (r := n - n % 2) (IntWalk.i64_in _ (by omega))) ?_;refine Za rfl (ZaQ rfl rfl (by decide) (r := n / 2) (by rw [Int.tdiv_eq_ediv_of_dvd (by omega), IntWalk.i64_in _ (by omega)]; omega)) ?_;refine go ?_;refine Zno ?_;rfl
def sqK (f e : Int) : Nat := if (e - ((2 * fP f + 6 : Nat) : Int)) % 2 = 0 then 2 * fP f + 6 else 2 * fP f + 7
theorem sqK_le (f e : Int) : sqK f e ≤ 2 * fP f + 7 ∧ 2 * fP f + 6 ≤ sqK f e ∧ (e - (sqK f e : Int)) % 2 = 0 := by
  unfold sqK
  split
  · exact ⟨by omega, by omega, by assumption⟩
  exact ⟨by omega, by omega, by omega⟩
def sqrtV (v : Nat) (e prefer : Int) : Oc := if v - isq v * isq v = 0 then .ex (isq v : Nat) 1 e false prefer else .ex ((isq v * 10 + 1 : Nat) : Int) 1 (e - 1) false prefer
def ZcD (f : Int) (a : Dt) : Option Oc :=
  if isZD a = true then some (.ex 0 1 0 a.neg (a.exp / 2))
  else if a.neg = true then none
  else if a.cls = 2 then some (.sp ⟨infD f false, 0⟩)
  else some (sqrtV (val a.coef * 10 ^ sqK f a.exp) ((a.exp - (sqK f a.exp : Int)) / 2) (a.exp / 2))
theorem isq_fit {v k : Nat} (h : v < 10 ^ (2 * k)) : isq v < 10 ^ k := by
  have hR := Zfy v;apply Classical.byContradiction;intro h1;have h2 := Nat.mul_le_mul (Nat.le_of_not_lt h1) (Nat.le_of_not_lt h1);rw [← Nat.pow_add, show k + k = 2 * k by omega] at h2;have := hR.1;omega
theorem tm2 (x : Int) : (x.tmod 2 != 0) = decide ¬ x % 2 = 0 := by
  show (!(x.tmod 2 == 0)) = _
  have : (x.tmod 2 == 0) = decide (x % 2 = 0) := by
    rw [Zgg];refine decide_eq_decide.2 ⟨fun h => ?_, fun h => ?_⟩
    · exact Int.emod_eq_zero_of_dvd (Int.dvd_of_tmod_eq_zero h)
    exact Int.tmod_eq_zero_of_dvd (Int.dvd_of_emod_eq_zero h)
  rw [this, decide_not]
theorem exN (n d : Nat) (e : Int) (s : Bool) (p : Int) : D.iface ZE (.agg [.bool false, numD n, numD d, .int .i64 e, .bool s, .int .i64 p]) = ocD (.ex (n : Nat) d e s p) := by
  show _ = D.iface ZE (exD _ _ _ _ _);unfold exD;rw [decide_eq_false (show ¬ (n : Int) < 0 by omega), Int.natAbs_natCast]
theorem intN (n : Nat) : intD (n : Int) = .agg [.bool false, numD n] := by
  unfold intD; rw [decide_eq_false (by omega), Int.natAbs_natCast]
theorem Zlw (f dir : Int) (a : Dt) (m : Nat) (ha : dtF f a m) (hok : isZD a = false → ¬ a.cls = 2 → 0 < m) : PC C 94 [fmtD f dir, .sl 1 (Z5 [a])] (fun o => o = Zim (ZcD f a)) := by
  have hp := ZW f;have h1 := ha.e1; have h2 := ha.e2; have hlt := ha.lt
  have hv : ZcD f a = (if isZD a = true then some (.ex 0 1 0 a.neg (a.exp / 2))
      else if a.neg = true then none
      else if a.cls = 2 then some (.sp ⟨infD f false, 0⟩)
      else some (sqrtV (m * 10 ^ sqK f a.exp) ((a.exp - (sqK f a.exp : Int)) / 2) (a.exp / 2))) := by
    unfold ZcD; rw [ha.co, Zl]
  rw [hv];clear hv;have hac := ha.co;clear ha;obtain ⟨fa, ca, sa, xa, ea⟩ := a;obtain rfl : xa = lim m := hac;dsimp only at h1 h2 hok ⊢;have hZ : isZD ⟨fa, ca, sa, lim m, ea⟩ = (ca == 1 && ((((lim m).length : Nat) : Int) == 0)) := rfl;have hK := sqK_le f ea;refine Znr Tryz.func94 Tryz.ntmps94 Tryz.results94 ?_;refine go ?_;refine zzb ?_;refine go ?_;refine Za rfl (Zm rfl rfl rfl rfl (by decide) (by decide) (by simp [Z5]) rfl) ?_;refine zzL ?_;refine ZI rfl rfl rfl rfl rfl rfl rfl rfl rfl rfl rfl ?_;refine go ?_;refine Zc rfl rfl (Zcg ⟨fa, ca, sa, lim m, ea⟩) ?_;refine AOps.nil ?_;refine ARun.cond rfl (fun h => ?_) (fun h => ?_)
  · skip
    refine ARun.seq ?_;refine zdr 8 mixC ?_;refine .op rfl (Znq (Zd rfl rfl rfl rfl rfl rfl rfl rfl rfl rfl rfl (by decide) (by decide) rfl) ZO) ?_;refine gd ?_;refine .op rfl (Zb rfl rfl (Zi7 ea (by omega))) ?_;refine .op rfl (Zal rfl rfl rfl rfl rfl) ?_;refine .op rfl (ZH rfl rfl rfl) ?_;refine .nil (fun hG => ?_);refine go ?_;refine ARun.ret ?_;refine ⟨_, _, _, .tmp rfl .nil, .cons (.iface (.agg (.cons (.same _) (.cons .nil (.cons (.same _) (.cons (.same _) (.cons (.same _) (.cons (.same _) .nil)))))))) .nil, rfl, ?_⟩;rw [if_pos (by rw [hZ]; exact h)]; exact congrArg Out.ret (ex_zero _ _ _ _)
  rw [if_neg (by rw [hZ]; intro h6; rw [h6] at h; cases h)];refine go ?_;refine Zan rfl (ZQ rfl rfl (ZnI (ZbE _))) (fun hg => ?_) (fun q hq => by obtain ⟨hq, rfl⟩ := hq; exact ⟨_, _, .same _, rfl, by rw [if_pos (by simpa using hq)]; rfl⟩);refine go ?_;refine Zc rfl rfl (Z3 ⟨fa, ca, sa, lim m, ea⟩) ?_;refine AOps.nil ?_;refine ARun.cond rfl (fun h5 => ?_) (fun h5 => ?_)
  · skip
    have hg : ¬ sa = true := by simpa using hg
    have h5 : ca = 2 := by simpa using h5
    refine go ?_;refine Zc rfl rfl (Zbw f dir false 0) ?_;refine Za rfl (ZH rfl rfl rfl) ?_;refine go ?_;refine Zno ?_;rw [if_neg hg, if_pos h5]; try rfl
  have hg : ¬ sa = true := by simpa using hg
  have h5 : ¬ ca = 2 := by simpa using h5
  rw [if_neg hg, if_neg h5];have hm0 : 0 < m := hok (by rw [hZ]; exact h) h5;refine gn ?_;refine Za rfl (ZaC rfl rfl (r := ((2 * fP f : Nat) : Int)) (by rw [IntWalk.i64_in _ (by omega)]; omega)) ?_;refine Za rfl (Zf rfl rfl (r := ((2 * fP f + 6 : Nat) : Int)) (by rw [IntWalk.i64_in _ (by omega)]; omega)) ?_;refine gn ?_;refine Za rfl (Zk rfl rfl (r := ea - ((2 * fP f + 6 : Nat) : Int)) (IntWalk.i64_in _ (by dsimp only; omega))) ?_;refine Za rfl (Zdt rfl rfl (by decide) rfl) ?_;refine zzi ?_; refine AOps.nil ?_;refine Zny (S := Nat) (fun k : Nat => [(47, .any), (48, .any), (6, .int .i64 (k : Int))]) (fun k : Nat => k = sqK f ea) (fun run => ?_) ?_
  · skip
    refine ARun.cond rfl (fun h6 => ?_) (fun h6 => ?_)
    · skip
      rw [tm2] at h6;have h6 := Zh h6;refine gn ?_;refine Za rfl (Zf rfl rfl (r := ((2 * fP f + 7 : Nat) : Int)) (by rw [IntWalk.i64_in _ (by omega)]; omega)) ?_;refine zza ?_; refine AOps.nil ?_;exact ARun.ag (run ((2 * fP f + 7)) (by unfold sqK; rw [if_neg h6]))
    rw [tm2] at h6;have h6 := Classical.not_not.1 (Zj h6);refine ARun.skip ?_;exact ARun.ag (run ((2 * fP f + 6)) (by unfold sqK; rw [if_pos h6]))
  rintro k hj
  try dsimp only at hj ⊢
  subst hj;have hvl : m * 10 ^ sqK f ea < 10 ^ (2 * (2 * fP f)) := Zak hlt (by omega);have hs := isq_fit hvl;have hv0 : 0 < m * 10 ^ sqK f ea := Nat.mul_pos hm0 (Nat.pow_pos (by omega));have hvf := fitW hvl (by omega);have hMl := nMul m (10 ^ sqK f ea) (fitW hlt (by omega)) (fitT (by omega)) hvf;have hRt := Zlv _ hvf hv0;have hdv : (ea - (sqK f ea : Int)).tdiv 2 = (ea - (sqK f ea : Int)) / 2 := Int.tdiv_eq_ediv_of_dvd (by omega)
  have hE1 : -1000000 ≤ (ea - (sqK f ea : Int)) / 2 := by omega
  have hE2 : (ea - (sqK f ea : Int)) / 2 ≤ 1000000 := by omega
  unfold sqrtV;generalize isq (m * 10 ^ sqK f ea) = s at *
  have hs10 : s * 10 + 1 < 10 ^ (2 * fP f + 1) := by
    rw [Nat.pow_succ]; omega
  have hs1 : s * 10 < 10 ^ (2 * fP f + 1) := by omega
  have hT := Zej (s : Int) (10 ^ 1) (by unfold fitZ; rw [Int.natAbs_natCast]; exact fitW hs (by omega)) (fitT (by omega)) (by unfold fitZ; rw [Int.natAbs_mul, Int.natAbs_natCast, Int.natAbs_natCast]; exact fitW hs1 (by omega));rw [show ((s : Int) * ((10 ^ 1 : Nat) : Int)) = ((s * 10 : Nat) : Int) by omega, intN, intN] at hT;have hA := wAdd ((s * 10 : Nat) : Int) ((1 : Nat) : Int) (by unfold fitZ; rw [Int.natAbs_natCast]; exact fitW hs1 (by omega)) (by unfold fitZ; rw [Int.natAbs_natCast]; exact fitW (a := 1) (by decide) (by omega)) (by unfold fitZ; rw [← Int.natCast_add, Int.natAbs_natCast]; exact fitW hs10 (by omega));rw [← Int.natCast_add, intN, intN, intN] at hA;generalize (ea - (sqK f ea : Int)) / 2 = E at *;refine ARun.seq ?_;refine zdr 9 mixC ?_;refine gd ?_;refine .op rfl (Zb rfl rfl (ZaS (sqK f ea) (by omega))) ?_;refine .op rfl (Zb rfl rfl (hMl)) ?_;refine zdm ?_;refine .op rfl (ZD rfl rfl) ?_;refine .op rfl (ZD rfl rfl) ?_;refine .op rfl (Za4 rfl) ?_;refine .nil (fun hG => ?_);refine go ?_;refine Zc rfl rfl (hRt) ?_;refine go ?_;refine ZnD (n := 13) (fun S : Nat → Bool => []) [(12, 12, 108, [.bool false, .nilsl, .nilsl, .int .i64 0, .bool false, .int .i64 0], none)] (fun _ => False) (sk := [(12, none)]) mixC rfl rfl (by kernel_rfl) rfl (by kernel_rfl) rfl (fun _ _ _ h => h.elim) ?_;refine DChG.op rfl (fun _ => ZaH rfl) (fun _ => rfl) rfl rfl ?_;refine DChG.op rfl (fun _ => Zal rfl rfl rfl rfl rfl) (fun _ => rfl) rfl rfl ?_;refine DChG.op rfl (fun _ => Znq (Zd rfl rfl rfl rfl rfl rfl rfl rfl rfl rfl rfl (by decide) (by decide) rfl) ZO) (fun _ => rfl) rfl rfl ?_;refine DChG.op rfl (fun _ => Zb7 rfl rfl rfl (by decide)) (fun _ => rfl) rfl rfl ?_;refine DChG.op rfl (fun _ => ZP rfl rfl rfl rfl) (fun _ => rfl) rfl rfl ?_;refine DChG.op rfl (fun _ => ZaH rfl) (fun _ => rfl) rfl rfl ?_;refine DChG.op rfl (fun _ => Zk rfl rfl (r := ea - (sqK f ea : Int)) (IntWalk.i64_in _ (by dsimp only; omega))) (fun _ => rfl) rfl rfl ?_;refine DChG.op rfl (fun _ => ZaQ rfl rfl (by decide) (r := E) (by rw [hdv, IntWalk.i64_in _ (by omega)])) (fun _ => rfl) rfl rfl ?_;refine DChG.op rfl (fun _ => Zb7 rfl rfl rfl (by decide)) (fun _ => rfl) rfl rfl ?_;refine DChG.op rfl (fun _ => ZP rfl rfl rfl rfl) (fun _ => rfl) rfl rfl ?_;refine DChG.op rfl (fun _ => Zb rfl rfl (Zi7 ea (by omega))) (fun _ => rfl) rfl rfl ?_;refine DChG.op rfl (fun _ => Zal rfl rfl rfl rfl rfl) (fun _ => rfl) rfl rfl ?_;refine .al rfl rfl rfl rfl (fun _ => rfl) rfl rfl rfl ?_;refine .nil (fun hG => AOps.fin (n := 0) (as' := [(12, 12, 108, [.bool false, .nilsl, .nilsl, .int .i64 0, .bool false, .int .i64 0])]) (H' := [ex0]) rfl rfl rfl ?_);refine go ?_;refine ARun.cond rfl (fun h7 => ?_) (fun h7 => ?_)
  · skip
    refine ARun.seq ?_;refine ZnF (n := 12) (fun S : Nat → Bool => [exO false s 1 E false (ea / 2)]) [(10, 13, 60, [.bool false, .nilsl], some (11, [.bool false, numD (s * 10 + 1)]))] (fun _ => False) (sk := [(10, some 11)]) mixC rfl rfl (by kernel_rfl) rfl (by kernel_rfl) rfl rfl (fun _ _ _ h => h.elim) ?_;refine DChG.op rfl (fun _ => ZZ rfl rfl rfl (by decide)) (fun _ => rfl) rfl rfl ?_;refine DChG.op rfl (fun _ => Zp rfl rfl rfl rfl rfl rfl) (fun _ => rfl) rfl rfl ?_;refine DChG.op rfl (fun _ => Zb rfl rfl (ZaS 1 (by omega))) (fun _ => rfl) rfl rfl ?_;refine DChG.op rfl (fun _ => Zb rfl rfl (hT)) (fun _ => rfl) rfl rfl ?_;refine DChG.op rfl (fun _ => Znq (Zd rfl rfl rfl rfl rfl rfl rfl rfl rfl rfl rfl (by decide) (by decide) rfl) ZO) (fun _ => rfl) rfl rfl ?_;refine DChG.op rfl (fun _ => Zal rfl rfl rfl rfl rfl) (fun _ => rfl) rfl rfl ?_;refine DChG.op rfl (fun _ => Zb rfl rfl (hA)) (fun _ => rfl) rfl rfl ?_;refine DChG.op rfl (fun _ => ZaH rfl) (fun _ => rfl) rfl rfl ?_;refine DChG.op rfl (fun _ => ZD rfl rfl) (fun _ => rfl) rfl rfl ?_;refine DChG.op rfl (fun _ => ZD rfl rfl) (fun _ => rfl) rfl rfl ?_;refine .al rfl rfl rfl rfl (fun _ => rfl) rfl rfl rfl ?_;refine .sp (j := 10) rfl rfl rfl rfl rfl rfl rfl (fun _ => rfl) rfl rfl rfl (by kernel_rfl) ?_;refine .nil (fun hG => ZnH (as' := [(10, 13, 60, [.bool false, numD (s * 10 + 1)])]) rfl ?_);refine gn ?_;refine Za rfl (Zk rfl rfl (r := E - 1) (IntWalk.i64_in _ (by omega))) ?_;refine gn ?_;refine Za rfl (ZH rfl rfl rfl) ?_;refine go ?_;refine Zno ?_;rw [if_neg (by have := ZB.1 (show 0 < (lim (m * 10 ^ sqK f ea - s * s)).length by have := Zh h7; omega); omega)];exact congrArg Out.ret (exN _ _ _ _ _)
  refine gn ?_;refine Za rfl (ZH rfl rfl rfl) ?_;refine go ?_;refine Zno ?_
  rw [if_pos (by
    apply Classical.byContradiction;intro h8;have := ZB.2 h8;have := Zj h7
    omega)]
  exact congrArg Out.ret (exN _ _ _ _ _)
theorem sqrtO_W {f : Int} {a : Dt} {m : Nat} (ha : dtF f a m) : ∀ x, ZcD f a = some x → ocW f x := by
  intro x hx;have hp := ZW f;have h1 := ha.e1; have h2 := ha.e2; have hlt := ha.lt;have hK := sqK_le f a.exp;have h10 : 1 < 10 ^ fP f := Nat.one_lt_pow (by omega) (by omega);unfold ZcD at hx
  split at hx
  · injection hx with hx; subst hx
    exact ⟨Nat.pow_pos (by omega), Nat.one_pos, h10, by omega, by omega⟩
  split at hx
  · cases hx
  split at hx
  · injection hx with hx; subst hx; exact Nat.zero_le _
  injection hx with hx; subst hx
  rw [ha.co, Zl];have hvl : m * 10 ^ sqK f a.exp < 10 ^ (2 * (2 * fP f)) := Zak hlt (by omega);have hs := isq_fit hvl;unfold sqrtV;generalize isq (m * 10 ^ sqK f a.exp) = s at *
  have hs10 : s * 10 + 1 < 10 ^ (2 * fP f + 1) := by rw [Nat.pow_succ]; omega
  split
  · exact ⟨by rw [Int.natAbs_natCast]; exact ZG hs (by omega), Nat.one_pos, h10, by omega, by omega⟩
  exact ⟨by rw [Int.natAbs_natCast]; exact ZG hs10 (by omega), Nat.one_pos, h10, by omega, by omega⟩
theorem ZiJ {a : Dt} {dir : Int} (ha : U32 a.coef) (h : chkL a [a] dir = 0) : isF a.fmt ∧ okD a = true ∧ ∃ m, dtF a.fmt a m := by
  obtain ⟨hdr, hall, hfm⟩ := Zbn h;simp only [List.all_cons, List.all_nil, Bool.and_true] at hall;obtain ⟨m, hm⟩ := ZbW ha hall;exact ⟨Zhm hall, hall, m, hm⟩
theorem Zi8 (a : Dt) (dir : Int) (ha : U32 a.coef ∧ a.coef.length ≤ 35184372088832) : PC Cd 28 [dtD a, .int .i64 dir] (fun o => o = .ret (.tup [rsD (ZR a [a] dir (ZcD a.fmt a)).1, .int .i64 (ZR a [a] dir (ZcD a.fmt a)).2])) := by
  have hD := ZcJ a [] 1 dir 94 (ZcD a.fmt a) rfl (fun d hd => by rw [List.mem_singleton.1 hd]; exact ha) (fun h hN => by
    obtain ⟨hf, ho, m, hm⟩ := ZiJ ha.1 h;have h2 := (Zf1 hN).1;simp at h2;refine PC.gl (Zlw a.fmt dir a m hm fun hz h3 => ?_);have hc := Zc4 ho (by simpa using h2) h3;unfold isZD at hz;rw [hc, hm.co, lenz] at hz
    have : ¬ m = 0 := by simpa using hz
    omega) (fun h _ => by
    obtain ⟨hf, ho, m, hm⟩ := ZiJ ha.1 h
    exact sqrtO_W hm)
  refine Znr Tryz.func28 Tryz.ntmps28 Tryz.results28 ?_;refine go ?_;refine zzb ?_;refine go ?_;refine Za rfl (Zd rfl rfl rfl rfl rfl rfl rfl rfl rfl rfl rfl (by decide) (by decide) rfl) ?_;refine Zc rfl rfl (hD) ?_;refine go ?_;refine ARun.ret ?_;refine ⟨_, _, _, Znt rfl rfl rfl rfl rfl rfl (.tmp rfl .nil), .cons (.same _) (.cons (.same _) .nil), rfl, ?_⟩;rfl
def ZbR (x y : Nat) : Bool := decide (y - x % y < x % y ∨ (x % y = y - x % y ∧ x / y % 2 = 1))
def ZbB (x y : Nat) : Nat := if ZbR x y then y - x % y else x % y
theorem Zl2 (x y : Nat) (hx : (lim x).length ≤ 1024) (hy : (lim y).length ≤ 1024) (h0 : 0 < y) : PC C 109 [numD x, numD y] (fun o => o = .ret (.tup [numD (ZbB x y), .bool (ZbR x y)])) := by
  have hr := Nat.mod_lt x h0;have hrl := Nat.le_trans (Zn (Nat.mod_le x y)) hx;have hml := Nat.le_trans (Zn (Nat.sub_le y (x % y))) hy;have hD := nDiv x y hx hy h0;have hS := nSub y (x % y) hy (Nat.le_of_lt hr);have hC := nCmp (x % y) (y - x % y) hrl hml;unfold ZbB ZbR;have hq : x / y = x / y := rfl;generalize x / y = q at *;generalize x % y = r at *;generalize hmo : y - r = mo at *;refine Znr Tryz.func109 Tryz.ntmps109 Tryz.results109 ?_;refine go ?_;refine Zc rfl rfl (hD) ?_;refine go ?_;refine Zc rfl rfl (hS) ?_;refine go ?_;refine Zc rfl rfl (hC) ?_;refine Zr ?_; refine zze ?_; refine zze ?_; refine zza ?_; refine zza ?_; refine AOps.nil (ARun.seq (ARun.seq ?_));refine Zny (S := Bool) (fun o : Bool => [(32, .any), (33, .any), (34, .any), (35, .any), (36, .any), (37, .any), (38, .any), (39, .any), (40, .any), (41, .any), (42, .any), (43, .any), (44, .any), (45, .any), (46, .any), (47, .any), (48, .any), (49, .bool o)]) (fun o : Bool => o = decide (mo < r ∨ (r = mo ∧ q % 2 = 1))) (fun run => ?_) ?_
  · skip
    rcases Nat.lt_trichotomy mo r with hA | hA | hA
    · have hc := Zfi hA
      refine gn ?_;refine Za rfl (Znq (d' := .bool true) (Zaa rfl rfl rfl) (congrArg D.bool (decide_eq_true (by omega)))) ?_;refine Zr ?_; refine Zg ?_; refine Zg ?_; refine Zg ?_; refine Zg ?_; refine Zg ?_; refine Zg ?_; refine Zg ?_; refine Zg ?_; refine Zg ?_; refine Zg ?_; refine Zg ?_; refine Zg ?_; refine Zg ?_; refine Zg ?_; refine ZK ?_; refine AOps.nil ?_;exact ARun.ag (run (true) ((decide_eq_true (.inl hA)).symm))
    · have hc := ZiG hA.symm
      rcases Nat.eq_zero_or_pos q with h1 | h1
      · skip
        refine gn ?_;refine Za rfl (Znq (d' := .bool false) (Zaa rfl rfl rfl) (congrArg D.bool (decide_eq_false (by omega)))) ?_;refine gn ?_;refine Za rfl (Znq (d' := .bool true) (Zaa rfl rfl rfl) (congrArg D.bool (decide_eq_true (by omega)))) ?_;refine gn ?_;refine Za rfl (Znq (d' := .bool false) (Zaa rfl rfl rfl) (congrArg D.bool (decide_eq_false (by rw [h1, Za9]; decide)))) ?_;refine ZK ?_; refine Zr ?_; refine Zg ?_; refine Zg ?_; refine Zg ?_; refine Zg ?_; refine Zg ?_; refine ZK ?_; refine ZK ?_; refine AOps.nil ?_;exact ARun.ag (run (false) ((decide_eq_false (by omega)).symm))
      obtain ⟨s, hs⟩ := ZeU h1;have hl : 0 < (lim q).length := ZB.2 (by omega);have hm := ZjB q;refine gn ?_;refine Za rfl (Znq (d' := .bool false) (Zaa rfl rfl rfl) (congrArg D.bool (decide_eq_false (by omega)))) ?_;refine gn ?_;refine Za rfl (Znq (d' := .bool true) (Zaa rfl rfl rfl) (congrArg D.bool (decide_eq_true (by omega)))) ?_;refine gn ?_;refine Za rfl (Znq (d' := .bool true) (Zaa rfl rfl rfl) (congrArg D.bool (decide_eq_true (by omega)))) ?_;refine go ?_;refine Za rfl (Zm rfl rfl rfl rfl (by omega) (by omega) (by rw [hs]; simp) (by rw [hs])) ?_;refine zzl ?_;refine Za rfl (Zdt rfl rfl (by omega) (nrem (n := 2) rfl)) ?_;refine zzi ?_; refine ZK ?_; refine ZK ?_; refine AOps.nil ?_;exact ARun.ag (run (((((q % B % 2 : Nat) : Int) == 1))) ((decide_eq_decide.2 (by omega) : decide ((((q % B % 2 : Nat) : Int) = 1)) = decide (mo < r ∨ (r = mo ∧ q % 2 = 1)))))
    have hc := Zhg hA;refine gn ?_;refine Za rfl (Znq (d' := .bool false) (Zaa rfl rfl rfl) (congrArg D.bool (decide_eq_false (by omega)))) ?_;refine gn ?_;refine Za rfl (Znq (d' := .bool false) (Zaa rfl rfl rfl) (congrArg D.bool (decide_eq_false (by omega)))) ?_;refine Zr ?_; refine Zg ?_; refine Zg ?_; refine Zg ?_; refine ZK ?_; refine Zr ?_; refine Zg ?_; refine Zg ?_; refine Zg ?_; refine Zg ?_; refine Zg ?_; refine ZK ?_; refine ZK ?_; refine AOps.nil ?_;exact ARun.ag (run (false) ((decide_eq_false (by omega)).symm))
  rintro o hj
  try dsimp only at hj ⊢
  subst hj;refine ARun.cond rfl (fun h => ?_) (fun h => ?_)
  · skip
    rw [if_pos h];refine go ?_;refine ZnA ?_;rw [h]; try rfl
  have h' := Bool.eq_false_iff.1 h;rw [if_neg h'];refine go ?_;refine ZnA ?_;rw [h]; try rfl
theorem wPow (k m : Nat) (hk : fitZ (k : Int)) (hm : fitZ (m : Int)) (h0 : 0 < m) : PC C 105 [.agg [.bool false, numD 10], intD (k : Int), .agg [.bool false, numD m]] (fun o => o = .ret (.tup [.agg [.bool false, numD (10 ^ k % m)], .int .i64 0])) := by
  have h10 : fitZ ((10 : Nat) : Int) := by unfold fitZ; exact fitW (a := 2) (by decide) (by omega)
  have := Zll (decide (((10 : Nat) : Int) < 0), lim ((10 : Nat) : Int).natAbs) (decide ((k : Int) < 0), lim (k : Int).natAbs) (decide ((m : Int) < 0), lim (m : Int).natAbs) (Zz _) (Zz _) (Zz _);rw [Zbm, Zbm, Zbm] at this
  have hv : resZ ([(decide (((10 : Nat) : Int) < 0), lim ((10 : Nat) : Int).natAbs), (decide ((k : Int) < 0), lim (k : Int).natAbs), (decide ((m : Int) < 0), lim (m : Int).natAbs)].all okI) (mpO ((10 : Nat) : Int) k m) = (((10 ^ k % m : Nat) : Int), 0) := by
    rw [show [(decide (((10 : Nat) : Int) < 0), lim ((10 : Nat) : Int).natAbs), (decide ((k : Int) < 0), lim (k : Int).natAbs), (decide ((m : Int) < 0), lim (m : Int).natAbs)].all okI = true by simp only [List.all_cons, List.all_nil, ZfW h10, ZfW hk, ZfW hm, Bool.and_self]];unfold mpO;rw [if_neg (by omega), if_neg (by omega)];show ((((10 : Nat) : Int) ^ (k : Int).toNat % m), (0 : Int)) = _;rw [Int.toNat_natCast, Int.natCast_emod, Int.natCast_pow]
  rw [hv, intN] at this;have e1 := intN 10;have e2 := intN m;unfold intD at e1 e2;unfold intA at this;show PC C 105 [.agg [.bool false, numD 10], .agg [.bool (decide ((k : Int) < 0)), numD (k : Int).natAbs], .agg [.bool false, numD m]] _;rw [← e1, ← e2];exact this
def remP (m n : Nat) (ea eb : Int) : Nat × Nat := if eb < ea then (m * (10 ^ (ea - eb).toNat % (n + n)) % (n + n), n) else (m, n * 10 ^ (eb - ea).toNat)
def remO (f : Int) (a b : Dt) : Option Oc :=
  if a.cls = 2 ∨ isZD b = true then none
  else if b.cls = 2 then some (.sp ⟨a, 0⟩)
  else if ¬ b.exp < a.exp ∧ (fP f : Int) + 1 < b.exp - a.exp then some (.ex (dtZ a) 1 (min a.exp b.exp) a.neg (min a.exp b.exp))
  else some (.ex (sgnd (a.neg != ZbR (remP (val a.coef) (val b.coef) a.exp b.exp).1 (remP (val a.coef) (val b.coef) a.exp b.exp).2) (ZbB (remP (val a.coef) (val b.coef) a.exp b.exp).1 (remP (val a.coef) (val b.coef) a.exp b.exp).2)) 1 (min a.exp b.exp) a.neg (min a.exp b.exp))
theorem exS (s : Bool) (n d : Nat) (e : Int) (g : Bool) (p : Int) : D.iface ZE (.agg [.bool (s && decide (((((lim n).length : Nat) : Int)) > 0)), numD n, numD d, .int .i64 e, .bool g, .int .i64 p]) = ocD (.ex (sgnd s n) d e g p) := by
  show _ = D.iface ZE (exD _ _ _ _ _);rw [sgd_and, exD, Zw]
theorem nand_f {c : Int} {z : Bool} (h : (!(c == 2) && !z) = false) : c = 2 ∨ z = true := by
  cases z
  · left; simpa using h
  right; rfl
theorem nand_t {c : Int} {z : Bool} (h : (!(c == 2) && !z) = true) : ¬ (c = 2 ∨ z = true) := by
  cases z
  · simpa using h
  simp at h
theorem Zl3 (f dir : Int) (a b : Dt) (m n : Nat) (ha : dtF f a m) (hb : dtF f b n) (hlen : a.coef.length ≤ 1024) (hok : isZD b = false → ¬ b.cls = 2 → 0 < n) : PC C 102 [fmtD f dir, .sl 2 (Z5 [a, b])] (fun o => o = Zim (remO f a b)) := by
  have hp := ZW f;have h1 := ha.e1; have h2 := ha.e2; have h3 := hb.e1; have h4 := hb.e2; have hla := ha.lt; have hlb := hb.lt;have hT := Zc8 a m ha.co
  have hv : remO f a b = (if a.cls = 2 ∨ isZD b = true then none
      else if b.cls = 2 then some (.sp ⟨a, 0⟩)
      else if ¬ b.exp < a.exp ∧ (fP f : Int) + 1 < b.exp - a.exp then some (.ex (sgnd a.neg m) 1 (min a.exp b.exp) a.neg (min a.exp b.exp))
      else some (.ex (sgnd (a.neg != ZbR (remP m n a.exp b.exp).1 (remP m n a.exp b.exp).2) (ZbB (remP m n a.exp b.exp).1 (remP m n a.exp b.exp).2)) 1 (min a.exp b.exp) a.neg (min a.exp b.exp))) := by
    unfold remO; rw [ha.z, ha.co, hb.co, Zl, Zl]
  rw [hv];clear hv;have hac := ha.co;have hbc := hb.co;clear ha hb;obtain ⟨fa, ca, sa, xa, ea⟩ := a;obtain ⟨fb, cb, sb, xb, eb⟩ := b;obtain rfl : xa = lim m := hac;obtain rfl : xb = lim n := hbc;dsimp only at h1 h2 h3 h4 hok hT ⊢;have hZ : isZD ⟨fb, cb, sb, lim n, eb⟩ = (cb == 1 && ((((lim n).length : Nat) : Int) == 0)) := rfl;have lm := fitW hla (by omega);have ln := fitW hlb (by omega);refine Znr Tryz.func102 Tryz.ntmps102 Tryz.results102 ?_;refine go ?_;refine zzb ?_;refine go ?_;refine ZnF (n := 10) (fun S : Nat → Bool => _) [(6, 5, 25, [.int .i64 0, .int .i64 0, .bool false, .nilsl, .int .i64 0], some (8, dtC ⟨fa, ca, sa, lim m, ea⟩)), (7, 6, 25, [.int .i64 0, .int .i64 0, .bool false, .nilsl, .int .i64 0], some (9, dtC ⟨fb, cb, sb, lim n, eb⟩))] (fun _ => False) (sk := [(6, some 8), (7, some 9)]) mixC rfl rfl (by kernel_rfl) rfl (by kernel_rfl) rfl rfl (fun _ _ _ h => h.elim) ?_;refine DChG.op rfl (fun _ => ZaH rfl) (fun _ => rfl) rfl rfl ?_;refine DChG.op rfl (fun _ => Zm rfl rfl rfl rfl (by decide) (by decide) (by simp [Z5]) rfl) (fun _ => rfl) rfl rfl ?_;refine DChG.op rfl (fun _ => Ze rfl rfl rfl rfl rfl) (fun _ => rfl) rfl rfl ?_;refine DChG.op rfl (fun _ => ZaH rfl) (fun _ => rfl) rfl rfl ?_;refine DChG.op rfl (fun _ => Zm rfl rfl rfl rfl (by decide) (by decide) (by simp [Z5]) rfl) (fun _ => rfl) rfl rfl ?_;refine DChG.op rfl (fun _ => Ze rfl rfl rfl rfl rfl) (fun _ => rfl) rfl rfl ?_;refine .al rfl rfl rfl rfl (fun _ => rfl) rfl rfl rfl ?_;refine .al rfl rfl rfl rfl (fun _ => rfl) rfl rfl rfl ?_;refine .sp (j := 6) rfl rfl rfl rfl rfl rfl rfl (fun _ => rfl) rfl rfl rfl (by kernel_rfl) ?_;refine .sp (j := 7) rfl rfl rfl rfl rfl rfl rfl (fun _ => rfl) rfl rfl rfl (by kernel_rfl) ?_;refine .nil (fun hG => ZnH (as' := [(6, 5, 25, dtC ⟨fa, ca, sa, lim m, ea⟩), (7, 6, 25, dtC ⟨fb, cb, sb, lim n, eb⟩)]) rfl ?_);refine go ?_;refine Zc rfl rfl (Z3 ⟨fa, ca, sa, lim m, ea⟩) ?_;refine zzn ?_; refine Zr ?_;apply Znu 26 (fun sj1 => [(26, .any), (27, .any), (28, .any), (29, .any), (30, .bool sj1)]) rfl
  · intro hj1 run1
    try replace hj1 := Zh hj1
    refine zzL ?_;refine Zc rfl rfl (Zcg ⟨fb, cb, sb, lim n, eb⟩) ?_;refine zzn ?_; refine ZK ?_;exact AOps.ag run1
  · intro hj1 run1
    try replace hj1 := Zj hj1
    refine Zg ?_; refine Zg ?_; refine Zg ?_; refine ZK ?_;exact AOps.ag run1
  refine Zan rfl (ZQ rfl rfl (ZnI (ZbE _))) (fun hg => ?_) (fun q hq => by obtain ⟨hq, rfl⟩ := hq; exact ⟨_, _, .same _, rfl, by rw [if_pos (by rw [hZ]; exact nand_f hq)]; rfl⟩);refine go ?_;refine Zc rfl rfl (Z3 ⟨fb, cb, sb, lim n, eb⟩) ?_;refine AOps.nil ?_
  have hg' : ¬ (ca = 2 ∨ isZD ⟨fb, cb, sb, lim n, eb⟩ = true) := by rw [hZ]; exact nand_t hg
  rw [if_neg hg'];refine ARun.cond rfl (fun h5 => ?_) (fun h5 => ?_)
  · skip
    have h5 : cb = 2 := by simpa using h5
    refine go ?_;refine Zc rfl rfl (Zbg ⟨fa, ca, sa, lim m, ea⟩ (by dsimp only; omega)) ?_;refine gn ?_;refine Za rfl (ZH rfl rfl rfl) ?_;refine go ?_;refine Zno ?_;rw [if_pos h5]; try rfl
  have h5 : ¬ cb = 2 := by simpa using h5
  rw [if_neg h5];have hn0 : 0 < n := hok (by have := fun h => hg' (.inr h); simpa using this) h5
  have hE : -100000 ≤ min ea eb ∧ min ea eb ≤ 100000 := by omega
  have hMin : min ea eb = min ea eb := rfl;generalize hex : min ea eb = ex at hE ⊢;refine gn ?_;refine Za rfl (Znq (Zgt rfl rfl) (congrArg (D.int .i64) hex)) ?_;refine gn ?_;refine Za rfl (Znq (Zd rfl rfl rfl rfl rfl rfl rfl rfl rfl rfl rfl (by decide) (by decide) rfl) ZO) ?_;refine go ?_;refine zdr 5 mixC ?_;refine zdf ?_;refine zdl ?_;refine zdf ?_;refine zdl ?_;refine .op rfl (Za4 rfl) ?_;refine .nil (fun hG => ?_);refine zza ?_; refine AOps.nil (ARun.seq ?_);refine Zny (S := Nat × Nat) (fun σ : Nat × Nat => [(4, .any), (9, numD σ.1), (10, numD σ.2), (11, .any), (12, .any), (13, .any), (14, .any), (54, .any), (55, .any), (56, .any), (57, .any), (58, .any), (59, .any), (60, .any), (61, .any), (62, .any), (63, .any), (64, .any), (65, .any), (66, .any), (67, .any), (68, .any), (69, .any), (70, .any), (71, .any), (72, .any), (73, .any), (74, .any), (75, .any), (76, .any), (77, .any), (78, .any), (79, .any), (80, .any), (81, .any), (82, .any), (83, .any), (84, .any), (85, .any), (86, .any), (87, .any), (88, .any), (89, .any), (90, .any), (91, .any), (92, .any), (93, .any), (94, .any), (95, .any), (96, .any), (97, .any), (98, .any), (99, .any), (100, .any), (101, .any), (102, .any), (103, .any), (104, .any), (105, .any), (106, .any), (107, .any), (108, .any), (109, .any), (110, .any), (111, .any), (112, .any), (113, .any), (114, .any), (115, .any), (116, .any), (117, .any), (118, .any), (119, .any), (120, .any)]) (fun σ : Nat × Nat => ¬ (¬ eb < ea ∧ (fP f : Int) + 1 < eb - ea) ∧ σ.1 = (remP m n ea eb).1 ∧ σ.2 = (remP m n ea eb).2 ∧ (lim σ.1).length ≤ 1024 ∧ (lim σ.2).length ≤ 1024 ∧ 0 < σ.2) (fun run => ?_) ?_
  · skip
    refine go ?_;refine ARun.cond rfl (fun h6 => ?_) (fun h6 => ?_)
    · skip
      have h6 : eb < ea := by have := Zh h6; omega
      obtain ⟨k, hk⟩ : ∃ k : Nat, ea - eb = (k : Int) := ⟨(ea - eb).toNat, by omega⟩
      have hkn : (ea - eb).toNat = k := by omega
      have hnn : n + n < 10 ^ (fP f + 1) := by rw [Nat.pow_succ]; omega
      have lnn := fitW hnn (by omega);have hpm : 10 ^ k % (n + n) < 10 ^ (fP f + 1) := Nat.lt_trans (Nat.mod_lt _ (by omega)) hnn;have lpm := fitW hpm (by omega)
      have hml : m * (10 ^ k % (n + n)) < 10 ^ (fP f + (fP f + 1)) := by rw [Nat.pow_add]; exact Nat.mul_lt_mul'' hla hpm
      have lml := fitW hml (by omega)
      have hz : fitZ (k : Int) := by unfold fitZ; rw [Int.natAbs_natCast]; exact fitW (a := 6) (Nat.lt_of_le_of_lt (show k ≤ 200000 by omega) (by decide)) (by omega)
      have hP := wPow k (n + n) hz (by unfold fitZ; rw [Int.natAbs_natCast]; exact lnn) (by omega)
      have hr : remP m n ea eb = (m * (10 ^ k % (n + n)) % (n + n), n) := by unfold remP; rw [if_pos h6, hkn]
      refine go ?_;refine Zc rfl rfl (nAdd n n ln ln lnn) ?_;refine gn ?_;refine Za rfl (Znq (Zd rfl rfl rfl rfl rfl rfl rfl rfl rfl rfl rfl (by decide) (by decide) rfl) ZeT) ?_;refine gn ?_;refine Za rfl (Zk rfl rfl (r := (k : Int)) (by rw [IntWalk.i64_in _ (by dsimp only; omega)]; exact hk)) ?_;refine Zc rfl rfl (ZgS (k : Int) (by omega) (by omega)) ?_;refine go ?_;refine Zc rfl rfl (hP) ?_;refine ga ?_;refine ZI rfl rfl rfl rfl rfl rfl rfl rfl rfl rfl rfl ?_;refine go ?_;refine Zc rfl rfl (nMul m (10 ^ k % (n + n)) lm lpm lml) ?_;refine go ?_;refine Zc rfl rfl (nDiv (m * (10 ^ k % (n + n))) (n + n) lml lnn (by omega)) ?_;refine Zr ?_; refine zze ?_; refine zze ?_; refine zze ?_; refine zza ?_; refine AOps.nil (ARun.inBlock ?_);exact ARun.ag (run ((m * (10 ^ k % (n + n)) % (n + n), n)) (⟨fun h => h.1 h6, by rw [hr], by rw [hr], Nat.le_trans (Zn (Nat.mod_le _ _)) lml, ln, hn0⟩))
    have h6 : ¬ eb < ea := by have := Zj h6; omega
    refine gn ?_;refine Za rfl (Zk rfl rfl (r := eb - ea) (IntWalk.i64_in _ (by dsimp only; omega))) ?_;refine gn ?_;refine Za rfl (Zf rfl rfl (r := (fP f : Int) + 1) (IntWalk.i64_in _ (by omega))) ?_;refine go ?_;refine ARun.cond rfl (fun h7 => ?_) (fun h7 => ?_)
    · skip
      have h7 : (fP f : Int) + 1 < eb - ea := by have := Zh h7; omega
      refine go ?_;refine Zc rfl rfl (hT) ?_;refine Za rfl (Zlj Tryz.underlying108 rfl rfl rfl rfl rfl rfl) ?_;refine gn ?_;refine Za rfl (ZH rfl rfl rfl) ?_;refine go ?_;refine Zno ?_;rw [if_pos ⟨h6, h7⟩]; try rfl
    have h7 : ¬ (fP f : Int) + 1 < eb - ea := by have := Zj h7; omega
    obtain ⟨k, hk⟩ : ∃ k : Nat, eb - ea = (k : Int) := ⟨(eb - ea).toNat, by omega⟩
    have hkn : (eb - ea).toNat = k := by omega
    have hr : remP m n ea eb = (m, n * 10 ^ k) := by unfold remP; rw [if_neg h6, hkn]
    have hml : n * 10 ^ k < 10 ^ (fP f + (fP f + 1)) := Zak hlb (by omega);have lml := fitW hml (by omega);refine gn ?_;refine Za rfl (Zk rfl rfl (r := (k : Int)) (by rw [IntWalk.i64_in _ (by dsimp only; omega)]; exact hk)) ?_;refine Zc rfl rfl (ZaS k (by omega)) ?_;refine Zc rfl rfl (nMul n (10 ^ k) ln (fitT (by omega)) lml) ?_;refine Zr ?_; refine zze ?_; refine zze ?_; refine zza ?_; refine AOps.nil (ARun.inBlock ?_);exact ARun.ag (run ((m, n * 10 ^ k)) (⟨fun h => h7 h.2, by rw [hr], by rw [hr], lm, lml, Nat.mul_pos hn0 (Nat.pow_pos (by omega))⟩))
  rintro ⟨X, Y⟩ hj
  try dsimp only at hj ⊢
  obtain ⟨j0, j1, j2, j3, j4, j5⟩ := hj;rw [if_neg j0, ← j1, ← j2];refine go ?_;refine Zc rfl rfl (Zl2 X Y j3 j4 j5) ?_;refine gn ?_;refine Za rfl (Zbu rfl rfl rfl) ?_;refine Zr ?_;apply Znu 131 (fun sj2 => [(131, .any), (132, .any), (133, .any), (134, .any), (135, .bool sj2)]) rfl
  · intro hj2 run2
    try replace hj2 := Zh hj2
    refine Zr ?_; refine zzN ?_; refine zzi ?_; refine ZK ?_;exact AOps.ag run2
  · intro hj2 run2
    try replace hj2 := Zj hj2
    refine Zg ?_; refine Zg ?_; refine Zg ?_; refine ZK ?_;exact AOps.ag run2
  refine gn ?_;refine Za rfl (ZH rfl rfl rfl) ?_;refine go ?_;refine Zno ?_;exact congrArg Out.ret (exS _ _ _ _ _ _)
end Go.V
