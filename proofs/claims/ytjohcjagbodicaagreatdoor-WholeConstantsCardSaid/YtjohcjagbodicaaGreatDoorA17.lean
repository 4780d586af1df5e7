/- A part of the proof: abstract values, rules for the steps of the program's form, and contracts of its functions, each proved; no condition. -/
import Derived.Test.YtjohcjagbodicaaGreatDoorA16
import Derived.DeepKeys
import Derived.ProofKit
import Derived.OpenShut
import Derived.LaidMore
import Derived.Test.YtjohcjagbodicaaGreatDoorTie
import Derived.Test.YtjohcjagbodicaaGreatDoorCards
import Derived.Lay
import Derived.SevenTiedAt
import Derived.Carry
import Derived.Stop.Joined
set_option linter.unusedVariables false
set_option linter.unusedSimpArgs false
/- TABLES OF THE PROGRAM; an element of an array of structs; equality of structs. -/
namespace Go.V
open Go.RowKit
theorem HC.gl {P : Program} {gl : List (Nat × List D)} {ty : TypeId → Option TE} {ok : ∀ t te, ty t = some te → TEok P t te} {f : FuncId} {H : Heap} {args : List D} {R : Out → Heap → Prop} (h : HC ⟨P, [], ty, ok⟩ f H args R) : HC ⟨P, gl, ty, ok⟩ f H args R := by
  refine ⟨h.1, fun L0 w μ vs hs ha => ?_⟩
  refine (h.2 L0 w μ vs ⟨hs.len, hs.obj, hs.inj, hs.own, hs.lim, fun g cs hg => by cases hg⟩ ha).mono fun e w' hfin => ?_
  obtain ⟨o, H1, μ1, h1, s1, h3, h4⟩ := hfin
  refine ⟨o, H1, μ1, h1, ⟨s1.len, s1.obj, s1.inj, s1.own, s1.lim, fun g cs hg => ?_⟩, h3, h4⟩
  obtain ⟨g1, g2, g3⟩ := hs.glob g cs hg
  have st := h4.step L0
  exact ⟨Nat.lt_of_lt_of_le g1 st.size, st.keep g g1 g2, VRL.step st.pure g1 g2 g3⟩
theorem PC.gl {P : Program} {gl : List (Nat × List D)} {ty : TypeId → Option TE} {ok : ∀ t te, ty t = some te → TEok P t te} {f : FuncId} {args : List D} {r : Out → Prop} (h : PC ⟨P, [], ty, ok⟩ f args r) : PC ⟨P, gl, ty, ok⟩ f args r := fun H => (h H).gl
section
variable {C : Ctx} {env : List D} {H : Heap} {dst : Option Tmp} {ty : TypeId} {pos : String} {aft : Array Edge} {gd : Option (Nat × Bool)} {x y : Operand} {T T' e : TypeId}
theorem ZnG {n S b j : Nat} {ik : IntKind} {i : Int} {zv : Value} {te : TE} {cs ds : List D} (hx : evO C env x = some (.agg cs)) (hy : evO C env y = some (.int ik i)) (ht : C.ty T = some ⟨.array n e, S, b, zv⟩) (hee : C.ty e = some te) (ha : aggK te.k = true) (h0 : 0 ≤ i) (h1 : i < n) (hj : i.toNat * te.size = j) (hd : (cs.drop j).take te.size = ds) : OpQ C ⟨dst, .index T x y, ty, pos, aft, gd⟩ env H (.agg ds) :=
  OpQ.of_runS fun L0 w μ a hs he => by
    have ex := he _ _ hx
    have ey := he _ _ hy
    simp only [VR] at ex ey
    obtain ⟨vs, ex, hv⟩ := ex
    obtain ⟨ti, ta⟩ := ty_tic hee
    have ha' := ta.trans ha
    have ti' : TI C.P e (tkDesc C.P e) te.size te.bytes te.zero := ti
    have hun : C.P.underlying T = some (.array n e) := (C.ok T _ ht).2
    have hlen := VRs_length hv
    refine ⟨.agg (vs.toArray.extract j (j + te.size)), ?_, ?_⟩
    · simp only [execOp, ex, ey]
      unfold Instr.index
      simp [asIntOf, run_underlying hun, h0, h1, part, ti'.run_agg, ha', ti'.run_size, hj]
    simp only [VR]
    refine ⟨(vs.drop j).take te.size, by congr 1; apply Array.ext'; simp [List.extract_eq_take_drop], ?_⟩
    have hl2 : ((vs.drop j).take te.size).length = ((cs.drop j).take te.size).length := by simp [hlen]
    subst hd
    refine VRs_mk hl2 fun k d v h1 h2 => ?_
    rw [List.getElem?_take] at h1 h2
    split at h1
    · rw [List.getElem?_drop] at h1
      rename_i hk
      rw [if_pos hk, List.getElem?_drop] at h2
      obtain ⟨v', k1, k2⟩ := VRs_get hv h1
      rw [h2] at k1
      injection k1 with k1
      subst k1
      exact k2
    cases h1
def valD : D → Option Value
  | .int k n => some (.int k n)
  | .bool b => some (.bool b)
  | .str s => some (.string s)
  | _ => none
def valsD : List D → Option (List Value)
  | [] => some []
  | d :: ds => match valD d, valsD ds with
    | some v, some vs => some (v :: vs)
    | _, _ => none
theorem valD_ok {w : World} {L : Nat → Prop} {μ : List Nat} {H : Heap} {d : D} {v u : Value} (h : valD d = some v) (hv : VR w L μ H d u) : u = v := by
  cases d <;> simp only [valD] at h <;> first | (injection h with h; subst h; simpa only [VR] using hv) | cases h
theorem valsD_ok {w : World} {L : Nat → Prop} {μ : List Nat} {H : Heap} : ∀ {ds : List D} {vs us : List Value}, valsD ds = some vs → VRs w L μ H ds us → us = vs
  | [], vs, us, h, hv => by simp only [valsD] at h; injection h with h; subst h; simpa only [VRs] using hv
  | d :: ds, vs, us, h, hv => by
    simp only [valsD] at h
    split at h
    · rename_i v vs' h1 h2
      injection h with h; subst h
      simp only [VRs] at hv
      obtain ⟨u, us', rfl, k1, k2⟩ := hv
      rw [valD_ok h1 k1, valsD_ok h2 k2]
    cases h
theorem run_eqGuard_agg {P : Program} {w : World} {op : BinOp} {t : TypeId} {xs ys : Array Value} (h : P.eqGuardType P.depth t = false) : (eqGuard op t x y (.agg xs) (.agg ys)).run P w = .ok () w := by
  unfold eqGuard
  simp only [Sem.run_bind]
  split <;> simp [h]
theorem Zoo {ds es : List D} {vs ws : List Value} {m f : Nat} {la lb : List Lit} {r : Bool} (hk : C.P.keyTypeAt m T = true) (hm : m ≤ 10000) (hg : C.P.eqGuardType C.P.depth T = false) (hx : evO C env x = some (.agg ds)) (hy : evO C env y = some (.agg es)) (hvs : valsD ds = some vs) (hws : valsD es = some ws)
    (fx : (Value.agg vs.toArray).formed C.P T = true) (fy : (Value.agg ws.toArray).formed C.P T = true) (lx : C.P.keyLits f T vs = some la) (ly : C.P.keyLits f T ws = some lb) (hr : r = true ↔ la = lb) : OpQ C ⟨dst, .binOp .eql T x y T', ty, pos, aft, gd⟩ env H (.bool r) :=
  OpQ.of_run fun L w μ a he => by
    have ex := he _ _ hx
    have ey := he _ _ hy
    simp only [VR] at ex ey
    obtain ⟨us, ex, hu⟩ := ex
    obtain ⟨us', ey, hu'⟩ := ey
    rw [valsD_ok hvs hu] at ex
    rw [valsD_ok hws hu'] at ey
    obtain ⟨r', hr', hiff⟩ := run_equalIn_deep (P := C.P) (10000 - m) m T hk w f f (.agg vs.toArray) (.agg ws.toArray) la lb fx fy (by simpa [Value.cells] using lx) (by simpa [Value.cells] using ly)
    rw [show 10000 - m + m = 10000 by omega] at hr'
    obtain rfl : r' = r := by rw [Bool.eq_iff_iff, hiff, hr]
    refine ⟨.bool r', ?_, by simp only [VR]⟩
    have hr' : (Op.equal T (.agg vs.toArray) (.agg ws.toArray)).run C.P w = .ok r' w := hr'
    simp only [execOp, ex, ey, Sem.run_bind, run_eqGuard_agg hg, Result.andThen_ok]
    simp only [binOp, Sem.run_bind, hr', Result.andThen_ok, Sem.run_pure]
end
end Go.V
set_option maxHeartbeats 8000000
set_option maxRecDepth 100000
set_option synthInstance.maxSize 100000
set_option synthInstance.maxHeartbeats 2000000
namespace Go.V
open Go.RowKit Go.Proofs
def ff (P : Nat → Bool) (k : Nat) : Option Nat := (List.range' k (6 - k)).find? P
theorem ff_step {P : Nat → Bool} {k : Nat} (h : k < 6) : ff P k = bif P k then some k else ff P (k + 1) := by
  unfold ff
  rw [show 6 - k = (6 - (k + 1)) + 1 by omega, List.range'_succ, List.find?_cons]
  cases P k <;> rfl
theorem ff_end (P : Nat → Bool) : ff P 6 = none := rfl
theorem ff_skip {P : Nat → Bool} : ∀ (j : Nat), j ≤ 6 → (∀ k, k < j → P k = false) → ff P 0 = ff P j
  | 0, _, _ => rfl
  | j + 1, h, hp => by rw [ff_skip j (by omega) (fun k hk => hp k (by omega)), ff_step (by omega), hp j (by omega)]; rfl
def tyB (k : Nat) : Nat := (if k < 2 then 32 else 64) - (1 - k % 2)
def skP (b : Nat) (u : Bool) (n k : Nat) : Bool := decide (k / 2 < n) || ((u && !decide (k % 2 = 1)) || (decide (k % 2 = 1) && (!u && decide (b = 10))))
def fitsP (a b : Nat) (u : Bool) (n k : Nat) : Bool := !skP b u n k && decide (bl a ≤ tyB k)
def typeO : Option Nat → Int × Bool × Int
  | some k => (((k / 2 : Nat) : Int), decide (k % 2 = 1), 0)
  | none => (0, false, 3)
def typeR (e : Ca) : Int × Bool × Int := bif okC e then typeO (ff (fitsP (val e.1) e.2.1.toNat e.2.2.1 e.2.2.2.toNat) 0) else (0, false, 1)
abbrev ctD (r : Int × Bool × Int) : D := .agg [.int .i64 r.1, .bool r.2.1]
theorem fits_even {a b : Nat} {u : Bool} {n m : Nat} (h : n ≤ m) (hm : m ≤ 2) : fitsP a b u n (2 * m) = (!u && decide (bl a < if m = 0 then 32 else 64)) := by
  unfold fitsP skP tyB
  rw [decide_eq_false (show ¬ 2 * m / 2 < n by omega), decide_eq_false (show ¬ 2 * m % 2 = 1 by omega)]
  have : decide (bl a ≤ (if 2 * m < 2 then 32 else 64) - (1 - 2 * m % 2)) = decide (bl a < if m = 0 then 32 else 64) := decide_eq_decide.2 (by split <;> split <;> omega)
  rw [this]
  cases u <;> rfl
theorem fits_odd {a b : Nat} {u : Bool} {n m : Nat} (h : n ≤ m) (hm : m ≤ 2) : fitsP a b u n (2 * m + 1) = ((u || decide (b ≠ 10)) && decide (bl a ≤ if m = 0 then 32 else 64)) := by
  unfold fitsP skP tyB
  rw [decide_eq_false (show ¬ (2 * m + 1) / 2 < n by omega), decide_eq_true (show (2 * m + 1) % 2 = 1 by omega)]
  have : decide (bl a ≤ (if 2 * m + 1 < 2 then 32 else 64) - (1 - (2 * m + 1) % 2)) = decide (bl a ≤ if m = 0 then 32 else 64) := decide_eq_decide.2 (by split <;> split <;> omega)
  rw [this]
  generalize decide (bl a ≤ if m = 0 then 32 else 64) = q
  by_cases hb : b = 10
  · rw [decide_eq_true hb, show decide (b ≠ 10) = false from decide_eq_false (fun h => h hb)]; cases u <;> rfl
  rw [decide_eq_false hb, show decide (b ≠ 10) = true from decide_eq_true hb]; cases u <;> rfl
theorem fits_low {a b : Nat} {u : Bool} {n k : Nat} (h : k < 2 * n) : fitsP a b u n k = false := by
  unfold fitsP skP
  rw [decide_eq_true (show k / 2 < n by omega)]; rfl
theorem typeR_bad {e : Ca} (h : okC e = false) : typeR e = (0, false, 1) := by unfold typeR; rw [h]; rfl
theorem typeR_ok {a b n : Nat} {u : Bool} (h : okC (lim a, (b : Int), u, (n : Int)) = true) : typeR (lim a, (b : Int), u, (n : Int)) = typeO (ff (fitsP a b u n) 0) := by
  unfold typeR; rw [h, cond_true]; dsimp only; rw [val_lim, Int.toNat_natCast, Int.toNat_natCast]
theorem ZmO (e : Ca) (hu : U32 e.1) : PC C Zgr [caD e] (fun o => o = .ret (.tup [ctD (typeR e), .int .i64 (typeR e).2.2])) := by
  obtain ⟨xs, base, u, k⟩ := e
  show PC C Zgr [.agg [sln .u32 xs, .int .i64 base, .bool u, .int .i64 k]] (fun o => o = .ret (.tup [ctD (typeR (xs, base, u, k)), .int .i64 (typeR (xs, base, u, k)).2.2]))
  replace hu : U32 xs := hu
  refine PC.rn Zfe ZjG ZjH (rs := [.cell 2 95, .tmp 3]) (by rw [ZjI]) ?_
  refine ARun.seq (ARun.region ?_); refine xb ?_
  refine y_new rfl (Zag rfl rfl rfl rfl) ?_
  refine xa ?_; refine AOps.nil (ARun.seq (ARun.seq (ARun.region ?_))); refine xL ?_
  refine xc rfl rfl (Zhj (xs, base, u, k)) ?_
  refine xn ?_; refine AOps.nil ?_
  refine ARun.cond rfl (fun h1 => ?_) (fun h1 => ?_)
  · skip
    have h1 : okC (xs, base, u, k) = false := by simpa using h1
    rw [typeR_bad h1]
    refine ARun.seq (ARun.region ?_)
    refine y_op rfl (Zal rfl rfl rfl rfl rfl) ?_
    refine y_new rfl (Zaa rfl rfl rfl rfl rfl rfl rfl rfl (Nat.le_of_ble_eq_true rfl) rfl) ?_
    refine xa ?_; refine AOps.nil ?_
    refine ARun.ret ?_
    refine ⟨_, _, _, ResR.cellA rfl rfl rfl rfl rfl rfl (.tmp rfl .nil), .cons (.same _) (.cons (.same _) .nil), rfl, ?_⟩
    rfl
  have h1 : okC (xs, base, u, k) = true := by simpa using h1
  obtain ⟨a, b, n, rfl, rfl, rfl, ha, hn, hb⟩ := okC_val hu h1
  rw [typeR_ok h1]
  generalize hP : fitsP a b u n = P
  have hB := ZkV a (by omega)
  refine ARun.skip (ARun.seq (ARun.seq (ARun.region ?_))); refine xf ?_; refine xl ?_; refine xa ?_; refine AOps.nil (ARun.block ?_)
  refine ARun.loopI (S := Nat) (fun m : Nat => [(3, .any), (5, .any), (12, .any), (13, .any), (14, .any), (15, .any), (16, .any), (17, .any), (18, .any), (19, .any), (20, .any), (21, .any), (22, .any), (23, .any), (24, .any), (25, .any), (26, .any), (27, .any), (28, .any), (29, .any), (30, .any), (31, .any), (32, .any), (33, .any), (34, .any), (35, .any), (36, .any), (37, .any), (38, .any), (39, .any), (40, .any), (41, .any), (42, .any), (43, .any), (44, .any), (45, .any), (4, .int .i64 (m : Int))]) (fun m : Nat => [some ⟨[.int .i64 0, .bool false], ZdQ, 1, true, none⟩]) (fun m : Nat => n ≤ m ∧ m ≤ 3 ∧ ff P 0 = ff P (2 * m)) (fun m : Nat => 3 - m) (n) ?_ ?_ ?_ ?_
  · exact ⟨Nat.le_refl _, by omega, ff_skip (2 * n) (by omega) (fun k hk => by rw [← hP]; exact fits_low hk)⟩
  · (repeat' first | exact envLe_nil | apply envLe_any | apply envLe_same)
  · rfl
  rintro m hinv ih
  obtain ⟨i1, i2, i3⟩ := hinv
  refine ARun.seq (ARun.seq (ARun.region ?_)); refine xm ?_; refine xi ?_; refine AOps.nil ?_
  refine ARun.ite rfl (fun g => ?_) (fun g => ?_)
  · skip
    have g : m ≤ 2 := by omega
    have hE := fits_even (a := a) (b := b) (u := u) i1 g
    have hO := fits_odd (a := a) (b := b) (u := u) i1 g
    rw [hP] at hE hO
    rw [ff_step (show 2 * m < 6 by omega), ff_step (show 2 * m + 1 < 6 by omega), hE, hO] at i3
    refine ARun.skip (ARun.seq (ARun.block (ARun.seq (ARun.region ?_)))); refine xa ?_; refine AOps.nil (ARun.seq (ARun.seq (ARun.region ?_))); refine xm ?_; refine xi ?_; refine AOps.nil ?_
    refine ARun.join (S := Unit) (fun w : Unit => [(5, .int .i64 (((if m = 0 then 32 else 64 : Nat) : Nat) : Int))]) (fun w : Unit => True) (fun run => ?_) ?_
    · skip
      refine ARun.ite rfl (fun z => ?_) (fun z => ?_)
      · skip
        have z : m = 0 := by omega
        rw [if_pos z] at run
        refine ARun.region ?_; refine xa ?_; refine AOps.nil ?_
        exact ARun.ag (run (()) (trivial))
      have z : ¬ m = 0 := by omega
      rw [if_neg z] at run
      refine ARun.skip ?_
      exact ARun.ag (run (()) (trivial))
    rintro w hj
    try dsimp only at hj ⊢
    have hr : (if m = 0 then 32 else 64) ≤ 64 := by split <;> decide
    generalize (if m = 0 then 32 else 64) = room at *
    refine ARun.seq (ARun.seq (ARun.region ?_)); refine xf ?_; refine xl ?_; refine xn ?_; refine xm ?_
    refine AOps.bool 21 rfl (fun c => ?_) (fun c => ?_)
    · skip
      have c : u = false := by simpa using c
      subst c
      refine xf ?_; refine xl ?_
      refine xc rfl rfl (hB) ?_
      refine xm ?_; refine xi ?_; refine xp ?_; refine AOps.nil ?_
      refine ARun.ite rfl (fun f => ?_) (fun f => ?_)
      · skip
        have f : bl a < room := by omega
        rw [i3, decide_eq_true f, show ((!false && true) = true) from rfl, cond_true]
        refine ARun.seq (ARun.region ?_); refine xm ?_
        refine y_op rfl (Zal rfl rfl rfl rfl rfl) ?_
        refine y_new rfl (Zaa rfl rfl rfl rfl rfl rfl rfl rfl (Nat.le_of_ble_eq_true rfl) rfl) ?_
        refine xa ?_; refine AOps.nil ?_
        refine ARun.ret ?_
        refine ⟨_, _, _, ResR.cellA rfl rfl rfl rfl rfl rfl (.tmp rfl .nil), .cons (.same _) (.cons (.same _) .nil), rfl, ?_⟩
        show Out.ret _ = Out.ret (.tup [.agg [.int .i64 ((2 * m / 2 : Nat) : Int), .bool (decide (2 * m % 2 = 1))], _])
        rw [show 2 * m / 2 = m by omega, decide_eq_false (show ¬ 2 * m % 2 = 1 by omega)]; rfl
      have f : ¬ bl a < room := by omega
      rw [decide_eq_false f] at i3
      replace i3 : ff P 0 = bif decide (b ≠ 10) && decide (bl a ≤ room) then some (2 * m + 1) else ff P (2 * m + 1 + 1) := i3
      refine ARun.skip (ARun.seq (ARun.region ?_)); refine xf ?_; refine xl ?_; refine xm ?_; refine xf ?_; refine xl ?_
      refine y_op rfl (OpQ.cast (d' := .bool (decide (b ≠ 10))) (q_int rfl rfl rfl) (by congr 1; rw [Bool.eq_iff_iff]; simp; omega)) ?_
      refine xp ?_; refine xm ?_
      refine AOps.bool 37 rfl (fun t => ?_) (fun t => ?_)
      · skip
        rw [t] at i3
        refine xf ?_; refine xl ?_
        refine xc rfl rfl (hB) ?_
        refine xm ?_; refine xi ?_; refine xp ?_; refine AOps.nil ?_
        refine ARun.ite rfl (fun r => ?_) (fun r => ?_)
        · skip
          rw [i3, decide_eq_true (show bl a ≤ room by omega), show ((true && true) = true) from rfl, cond_true]
          refine ARun.seq (ARun.region ?_); refine xm ?_
          refine y_op rfl (Zal rfl rfl rfl rfl rfl) ?_
          refine y_new rfl (Zaa rfl rfl rfl rfl rfl rfl rfl rfl (Nat.le_of_ble_eq_true rfl) rfl) ?_
          refine xa ?_; refine AOps.nil ?_
          refine ARun.ret ?_
          refine ⟨_, _, _, ResR.cellA rfl rfl rfl rfl rfl rfl (.tmp rfl .nil), .cons (.same _) (.cons (.same _) .nil), rfl, ?_⟩
          show Out.ret _ = Out.ret (.tup [.agg [.int .i64 (((2 * m + 1) / 2 : Nat) : Int), .bool (decide ((2 * m + 1) % 2 = 1))], _])
          rw [show (2 * m + 1) / 2 = m by omega, decide_eq_true (show (2 * m + 1) % 2 = 1 by omega)]; rfl
        rw [decide_eq_false (show ¬ bl a ≤ room by omega)] at i3
        refine ARun.skip (ARun.inBlock (ARun.region ?_)); refine xm ?_
        refine y_op rfl (q_add rfl rfl (nadd1_i64 (by omega))) ?_
        refine xa ?_; refine AOps.nil ?_
        refine ARun.again (ih (m + 1) ?_ ?_) ?_ ?_
        · exact ⟨by omega, by omega, i3⟩
        · omega
        · (repeat' first | exact envLe_nil | apply envLe_any | apply envLe_same)
        rfl
      rw [t] at i3
      refine xk ?_; refine xk ?_; refine xk ?_; refine xk ?_; refine xk ?_; refine xp ?_; refine AOps.nil ?_
      refine ARun.condF rfl ?_
      refine ARun.skip (ARun.inBlock (ARun.region ?_)); refine xm ?_
      refine y_op rfl (q_add rfl rfl (nadd1_i64 (by omega))) ?_
      refine xa ?_; refine AOps.nil ?_
      refine ARun.again (ih (m + 1) ?_ ?_) ?_ ?_
      · exact ⟨by omega, by omega, i3⟩
      · omega
      · (repeat' first | exact envLe_nil | apply envLe_any | apply envLe_same)
      rfl
    have c : u = true := by simpa using c
    subst c
    replace i3 : ff P 0 = bif decide (bl a ≤ room) then some (2 * m + 1) else ff P (2 * m + 1 + 1) := i3
    refine xk ?_; refine xk ?_; refine xk ?_; refine xk ?_; refine xk ?_; refine xp ?_; refine AOps.nil ?_
    refine ARun.condF rfl ?_
    refine ARun.skip (ARun.seq (ARun.region ?_)); refine xf ?_; refine xl ?_; refine xm ?_; refine xk ?_; refine xk ?_; refine xk ?_; refine xp ?_; refine xm ?_; refine xf ?_; refine xl ?_
    refine xc rfl rfl (hB) ?_
    refine xm ?_; refine xi ?_; refine xp ?_; refine AOps.nil ?_
    refine ARun.ite rfl (fun r => ?_) (fun r => ?_)
    · skip
      rw [i3, decide_eq_true (show bl a ≤ room by omega), cond_true]
      refine ARun.seq (ARun.region ?_); refine xm ?_
      refine y_op rfl (Zal rfl rfl rfl rfl rfl) ?_
      refine y_new rfl (Zaa rfl rfl rfl rfl rfl rfl rfl rfl (Nat.le_of_ble_eq_true rfl) rfl) ?_
      refine xa ?_; refine AOps.nil ?_
      refine ARun.ret ?_
      refine ⟨_, _, _, ResR.cellA rfl rfl rfl rfl rfl rfl (.tmp rfl .nil), .cons (.same _) (.cons (.same _) .nil), rfl, ?_⟩
      show Out.ret _ = Out.ret (.tup [.agg [.int .i64 (((2 * m + 1) / 2 : Nat) : Int), .bool (decide ((2 * m + 1) % 2 = 1))], _])
      rw [show (2 * m + 1) / 2 = m by omega, decide_eq_true (show (2 * m + 1) % 2 = 1 by omega)]; rfl
    rw [decide_eq_false (show ¬ bl a ≤ room by omega)] at i3
    refine ARun.skip (ARun.inBlock (ARun.region ?_)); refine xm ?_
    refine y_op rfl (q_add rfl rfl (nadd1_i64 (by omega))) ?_
    refine xa ?_; refine AOps.nil ?_
    refine ARun.again (ih (m + 1) ?_ ?_) ?_ ?_
    · exact ⟨by omega, by omega, i3⟩
    · omega
    · (repeat' first | exact envLe_nil | apply envLe_any | apply envLe_same)
    rfl
  obtain rfl : m = 3 := by omega
  rw [i3, show ff P (2 * 3) = none from ff_end P]
  refine ARun.exit rfl ?_
  refine ARun.seq (ARun.region ?_)
  refine y_op rfl (Zal rfl rfl rfl rfl rfl) ?_
  refine y_new rfl (Zaa rfl rfl rfl rfl rfl rfl rfl rfl (Nat.le_of_ble_eq_true rfl) rfl) ?_
  refine xa ?_; refine AOps.nil ?_
  refine ARun.ret ?_
  refine ⟨_, _, _, ResR.cellA rfl rfl rfl rfl rfl rfl (.tmp rfl .nil), .cons (.same _) (.cons (.same _) .nil), rfl, ?_⟩
  rfl
theorem ZlN (a : Nat) (ha : (lim a).length ≤ 1024) : PC C Zmg [numD a] (fun o => o = .ret (.tup [.int .i64 ((bl a : Nat) : Int), .int .i64 0])) := by
  refine PC.rn ZgP Zlj Zlk (rs := [.tmp 2, .tmp 3]) (by rw [Zll]) ?_
  refine ARun.seq (ARun.region ?_); refine xa ?_; refine xa ?_; refine AOps.nil (ARun.seq (ARun.seq (ARun.region ?_))); refine xm ?_
  refine xc rfl rfl (valid_lim ha) ?_
  refine xn ?_; refine AOps.nil ?_
  refine ARun.condF rfl ?_
  refine ARun.skip (ARun.seq (ARun.region ?_)); refine xm ?_
  refine xc rfl rfl (Zd3 a (by omega)) ?_
  refine xa ?_; refine xa ?_; refine AOps.nil ?_
  refine ARun.ret ?_
  refine ⟨_, _, _, .tmp rfl (.tmp rfl .nil), .cons (.same _) (.cons (.same _) .nil), rfl, ?_⟩
  rfl
abbrev tyCells : List D := [.int .i64 0, .bool false, .int .i64 31, .int .i64 0, .bool true, .int .i64 32, .int .i64 1, .bool false, .int .i64 63, .int .i64 1, .bool true, .int .i64 64, .int .i64 2, .bool false, .int .i64 63, .int .i64 2, .bool true, .int .i64 64]
noncomputable def Cg : Ctx := ⟨C.P, [(0, tyCells)], C.ty, C.ok⟩
theorem ty_at : ∀ k : Nat, k < 6 → (tyCells.drop (k * 3)).take 3 = [.int .i64 ((k / 2 : Nat) : Int), .bool (decide (k % 2 = 1)), .int .i64 ((tyB k : Nat) : Int)]
  | 0, _ | 1, _ | 2, _ | 3, _ | 4, _ | 5, _ => rfl
  | k + 6, h => by omega
theorem ZmP (e : Ca) (hu : U32 e.1) : PC Cg Zea [caD e] (fun o => o = .ret (.tup [ctD (typeR e), .int .i64 (typeR e).2.2])) := by
  obtain ⟨xs, base, u, k⟩ := e
  show PC Cg Zea [.agg [sln .u32 xs, .int .i64 base, .bool u, .int .i64 k]] (fun o => o = .ret (.tup [ctD (typeR (xs, base, u, k)), .int .i64 (typeR (xs, base, u, k)).2.2]))
  replace hu : U32 xs := hu
  refine PC.rn ZdE Zhv Zhw (rs := [.cell 2 95, .tmp 3]) (by rw [Zhx]) ?_
  refine ARun.seq (ARun.region ?_); refine xb ?_
  refine y_new rfl (Zag rfl rfl rfl rfl) ?_
  refine xa ?_; refine AOps.nil (ARun.seq (ARun.seq (ARun.region ?_))); refine xL ?_
  refine xc rfl rfl (PC.gl (ZeD (xs, base, u, k))) ?_
  refine xn ?_; refine AOps.nil ?_
  refine ARun.cond rfl (fun h1 => ?_) (fun h1 => ?_)
  · skip
    have h1 : okC (xs, base, u, k) = false := by simpa using h1
    rw [typeR_bad h1]
    refine ARun.seq (ARun.region ?_)
    refine y_op rfl (Zal rfl rfl rfl rfl rfl) ?_
    refine y_new rfl (Zaa rfl rfl rfl rfl rfl rfl rfl rfl (Nat.le_of_ble_eq_true rfl) rfl) ?_
    refine xa ?_; refine AOps.nil ?_
    refine ARun.ret ?_
    refine ⟨_, _, _, ResR.cellA rfl rfl rfl rfl rfl rfl (.tmp rfl .nil), .cons (.same _) (.cons (.same _) .nil), rfl, ?_⟩
    rfl
  have h1 : okC (xs, base, u, k) = true := by simpa using h1
  obtain ⟨a, b, n, rfl, rfl, rfl, ha, hn, hb⟩ := okC_val hu h1
  rw [typeR_ok h1]
  generalize hP : fitsP a b u n = P
  refine ARun.skip (ARun.seq (ARun.region ?_)); refine xf ?_; refine xl ?_
  refine xc rfl rfl (PC.gl (ZlN a ha)) ?_
  refine xm ?_; refine xe ?_; refine xe ?_; refine xa ?_; refine xa ?_; refine AOps.nil (ARun.seq (ARun.seq (ARun.region ?_))); refine xL ?_; refine xm ?_; refine AOps.nil (ARun.block ?_)
  refine ARun.loopI (S := Nat) (fun k : Nat => [(3, .any), (7, .any), (8, .any), (21, .any), (22, .any), (23, .any), (24, .any), (25, .any), (26, .any), (27, .any), (28, .any), (29, .any), (30, .any), (31, .any), (32, .any), (33, .any), (34, .any), (35, .any), (36, .any), (37, .any), (38, .any), (39, .any), (40, .any), (41, .any), (42, .any), (43, .any), (44, .any), (45, .any), (46, .any), (47, .any), (48, .any), (49, .any), (50, .any), (51, .any), (52, .any), (53, .any), (54, .any), (55, .any), (56, .any), (57, .any), (58, .any), (59, .any), (60, .any), (61, .any), (62, .any), (63, .any), (64, .any), (20, .int .i64 (k : Int))]) (fun k : Nat => [some ⟨[.int .i64 0, .bool false], ZdQ, 1, true, none⟩]) (fun k : Nat => k ≤ 6 ∧ ff P 0 = ff P k) (fun k : Nat => 6 - k) (0) ?_ ?_ ?_ ?_
  · exact ⟨by omega, rfl⟩
  · (repeat' first | exact envLe_nil | apply envLe_any | apply envLe_same)
  · rfl
  rintro k hinv ih
  obtain ⟨i1, i2⟩ := hinv
  refine ARun.seq (ARun.region ?_); refine xi ?_; refine AOps.nil (ARun.seq ?_)
  refine ARun.ite rfl (fun g => ?_) (fun g => ?_)
  · skip
    have g : k < 6 := by omega
    rw [ff_step g, ← hP] at i2
    refine ARun.skip (ARun.seq (ARun.block (ARun.seq (ARun.region ?_))))
    refine y_op rfl (ZnG rfl rfl rfl rfl rfl (by omega) (by omega) (show ((k : Nat) : Int).toNat * 3 = k * 3 by rw [Int.toNat_natCast]) (ty_at k g)) ?_
    refine ZbL rfl rfl rfl rfl rfl rfl rfl rfl rfl rfl rfl ?_
    generalize htu : decide (k % 2 = 1) = tu at *
    have hsk : skP b u n k = (decide (k / 2 < n) || ((u && !tu) || (tu && (!u && decide (b = 10))))) := by unfold skP; rw [htu]
    refine AOps.nil (ARun.seq ?_)
    refine ARun.join (S := Unit) (fun w : Unit => [(23, .any), (24, .any), (25, .any), (26, .any), (27, .any), (28, .any), (29, .any), (30, .any), (31, .any), (32, .any), (33, .any), (34, .any), (35, .any), (36, .any), (37, .any), (38, .any), (39, .any), (40, .any), (41, .any), (42, .any), (43, .any), (44, .any), (45, .any), (46, .any), (47, .any), (48, .any), (49, .any), (50, .any), (51, .any), (52, .any), (53, .any), (8, .bool (skP b u n k))]) (fun w : Unit => True) (fun run => ?_) ?_
    · skip
      rw [hsk] at run
      refine ARun.region ?_; refine xf ?_; refine xf ?_; refine xl ?_; refine xf ?_; refine xl ?_
      refine y_op rfl (OpQ.cast (d' := .bool (decide (k / 2 < n))) (q_int rfl rfl rfl) (congrArg D.bool (decide_eq_decide.2 (by omega)))) ?_
      refine xm ?_
      refine AOps.bool 29 rfl (fun s1 => ?_) (fun s1 => ?_)
      · skip
        rw [s1] at run
        refine xk ?_; refine xk ?_; refine xk ?_; refine xk ?_; refine xk ?_; refine xk ?_; refine xk ?_; refine xk ?_; refine xp ?_; refine xm ?_; refine xk ?_; refine xk ?_; refine xk ?_; refine xk ?_; refine xk ?_; refine xk ?_; refine xk ?_; refine xk ?_; refine xk ?_; refine xk ?_; refine xk ?_; refine xk ?_; refine xk ?_; refine xp ?_; refine xa ?_; refine AOps.nil ?_
        exact ARun.ag (run (()) (trivial))
      rw [s1] at run
      refine xf ?_; refine xl ?_; refine xm ?_
      refine AOps.bool 32 rfl (fun c1 => ?_) (fun c1 => ?_)
      · skip
        subst c1
        refine xf ?_; refine xf ?_; refine xl ?_; refine xn ?_; refine xp ?_; refine xp ?_; refine xm ?_
        refine AOps.bool 39 rfl (fun s2 => ?_) (fun s2 => ?_)
        · skip
          rw [s2] at run
          refine xk ?_; refine xk ?_; refine xk ?_; refine xk ?_; refine xk ?_; refine xk ?_; refine xk ?_; refine xk ?_; refine xk ?_; refine xk ?_; refine xk ?_; refine xk ?_; refine xk ?_; refine xp ?_; refine xa ?_; refine AOps.nil ?_
          exact ARun.ag (run (()) (trivial))
        have s2 : tu = true := by simpa using s2
        subst s2
        refine xf ?_; refine xf ?_; refine xl ?_; refine xm ?_; refine xf ?_; refine xl ?_; refine xn ?_; refine xp ?_; refine xm ?_; refine xk ?_; refine xk ?_; refine xk ?_; refine xp ?_; refine xp ?_; refine xa ?_; refine AOps.nil ?_
        exact ARun.ag (run (()) (trivial))
      subst c1
      refine xk ?_; refine xk ?_; refine xk ?_; refine xk ?_; refine xp ?_; refine xp ?_; refine xm ?_; refine xf ?_; refine xf ?_; refine xl ?_; refine xm ?_
      refine AOps.bool 43 rfl (fun s3 => ?_) (fun s3 => ?_)
      · skip
        subst s3
        refine xf ?_; refine xl ?_; refine xn ?_; refine xp ?_; refine xm ?_; refine xf ?_; refine xl ?_
        refine y_op rfl (OpQ.cast (d' := .bool (decide (b = 10))) (q_int rfl rfl rfl) (congrArg D.bool (by rw [Bool.eq_iff_iff]; simp; omega))) ?_
        refine xp ?_; refine xp ?_; refine xa ?_; refine AOps.nil ?_
        exact ARun.ag (run (()) (trivial))
      subst s3
      refine xk ?_; refine xk ?_; refine xk ?_; refine xp ?_; refine xm ?_; refine xk ?_; refine xk ?_; refine xk ?_; refine xp ?_; refine xp ?_; refine xa ?_; refine AOps.nil ?_
      exact ARun.ag (run (()) (trivial))
    rintro w hj
    try dsimp only at hj ⊢
    refine ARun.seq (ARun.region ?_); refine xm ?_; refine xn ?_; refine xm ?_
    refine AOps.bool 56 rfl (fun v => ?_) (fun v => ?_)
    · skip
      refine xm ?_; refine xf ?_; refine xl ?_; refine xi ?_; refine xp ?_; refine AOps.nil ?_
      refine ARun.ite rfl (fun r => ?_) (fun r => ?_)
      · skip
        have hf : fitsP a b u n k = true := by unfold fitsP; rw [v, decide_eq_true (show bl a ≤ tyB k by omega)]; rfl
        rw [hf, cond_true, hP] at i2
        rw [i2]
        refine ARun.seq (ARun.region ?_); refine xf ?_; refine xL ?_
        refine y_new rfl (Zaa rfl rfl rfl rfl rfl rfl rfl rfl (Nat.le_of_ble_eq_true rfl) rfl) ?_
        refine xa ?_; refine AOps.nil ?_
        refine ARun.ret ?_
        refine ⟨_, _, _, ResR.cellA rfl rfl rfl rfl rfl rfl (.tmp rfl .nil), .cons (.same _) (.cons (.same _) .nil), rfl, ?_⟩
        show Out.ret _ = Out.ret (.tup [.agg [.int .i64 ((k / 2 : Nat) : Int), .bool (decide (k % 2 = 1))], _])
        rw [htu]; rfl
      have hf : fitsP a b u n k = false := by unfold fitsP; rw [decide_eq_false (show ¬ bl a ≤ tyB k by omega), Bool.and_false]
      rw [hf, hP] at i2
      refine ARun.skip (ARun.inBlock (ARun.region ?_))
      refine y_op rfl (q_add rfl rfl (nadd1_i64 (by omega))) ?_
      refine xm ?_; refine AOps.nil ?_
      refine ARun.again (ih (k + 1) ?_ ?_) ?_ ?_
      · exact ⟨g, i2⟩
      · omega
      · (repeat' first | exact envLe_nil | apply envLe_any | apply envLe_same)
      rfl
    have hf : fitsP a b u n k = false := by unfold fitsP; rw [v, Bool.false_and]
    rw [hf, hP] at i2
    refine xk ?_; refine xk ?_; refine xk ?_; refine xk ?_; refine xp ?_; refine AOps.nil ?_
    refine ARun.condF rfl ?_
    refine ARun.skip (ARun.inBlock (ARun.region ?_))
    refine y_op rfl (q_add rfl rfl (nadd1_i64 (by omega))) ?_
    refine xm ?_; refine AOps.nil ?_
    refine ARun.again (ih (k + 1) ?_ ?_) ?_ ?_
    · exact ⟨g, i2⟩
    · omega
    · (repeat' first | exact envLe_nil | apply envLe_any | apply envLe_same)
    rfl
  obtain rfl : k = 6 := by omega
  rw [i2, ff_end]
  refine ARun.exit rfl ?_
  refine ARun.seq (ARun.region ?_)
  refine y_op rfl (Zal rfl rfl rfl rfl rfl) ?_
  refine y_new rfl (Zaa rfl rfl rfl rfl rfl rfl rfl rfl (Nat.le_of_ble_eq_true rfl) rfl) ?_
  refine xa ?_; refine AOps.nil ?_
  refine ARun.ret ?_
  refine ⟨_, _, _, ResR.cellA rfl rfl rfl rfl rfl rfl (.tmp rfl .nil), .cons (.same _) (.cons (.same _) .nil), rfl, ?_⟩
  rfl
end Go.V
set_option maxHeartbeats 8000000
set_option maxRecDepth 100000
set_option synthInstance.maxSize 100000
set_option synthInstance.maxHeartbeats 2000000
namespace Go.V
open Go.RowKit Go.Proofs
theorem ZmQ (c : Cn) (hc : (lim c.1).length ≤ 1024) : PC C Zff [cnD c, cnD c] (fun o => o = .ret (.bool true)) := by
  obtain ⟨v, b, u, n⟩ := c
  show PC C Zff [.agg [numD v, .int .i64 (b : Int), .bool u, .int .i64 (n : Int)], .agg [numD v, .int .i64 (b : Int), .bool u, .int .i64 (n : Int)]] (fun o => o = .ret (.bool true))
  replace hc : (lim v).length ≤ 1024 := hc
  refine PC.rn Zeb ZiF ZiG (rs := [.tmp 4]) (by rw [ZiH]) ?_
  refine ARun.seq (ARun.region ?_); refine xb ?_; refine xb ?_; refine xa ?_; refine AOps.nil (ARun.seq ?_)
  refine ARun.drawnP 28 (fun _ => False) mixC rfl rfl (by kernel_rfl) (fun _ _ h => h.elim) ?_
  refine .op rfl (q_fldS rfl rfl rfl (by decide)) ?_
  refine .op rfl (q_load rfl rfl rfl rfl) ?_
  refine .op rfl (q_call rfl rfl (Zjv false v (by omega))) ?_
  refine .op rfl (q_fldS rfl rfl rfl (by decide)) ?_
  refine .op rfl (q_load rfl rfl rfl rfl) ?_
  refine .op rfl (q_call rfl rfl (Zjv false v (by omega))) ?_
  refine .op rfl (q_call rfl rfl (same_T (sgnd false v))) ?_
  refine .op rfl (q_move rfl) ?_
  refine .op rfl (q_fldS rfl rfl rfl (by decide)) ?_
  refine .op rfl (q_load rfl rfl rfl rfl) ?_
  refine .op rfl (q_fldS rfl rfl rfl (by decide)) ?_
  refine .op rfl (q_load rfl rfl rfl rfl) ?_
  refine .op rfl (Zds rfl rfl rfl) ?_
  refine .op rfl (q_pick rfl rfl rfl rfl) ?_
  refine .op rfl (q_move rfl) ?_
  refine .op rfl (q_fldS rfl rfl rfl (by decide)) ?_
  refine .op rfl (q_load rfl rfl rfl rfl) ?_
  refine .op rfl (q_fldS rfl rfl rfl (by decide)) ?_
  refine .op rfl (q_load rfl rfl rfl rfl) ?_
  refine .op rfl (Znx rfl rfl rfl rfl) ?_
  refine .op rfl (q_pick rfl rfl rfl rfl) ?_
  refine .op rfl (q_move rfl) ?_
  refine .op rfl (q_fldS rfl rfl rfl (by decide)) ?_
  refine .op rfl (q_load rfl rfl rfl rfl) ?_
  refine .op rfl (q_fldS rfl rfl rfl (by decide)) ?_
  refine .op rfl (q_load rfl rfl rfl rfl) ?_
  refine .op rfl (Zds rfl rfl rfl) ?_
  refine .op rfl (q_pick rfl rfl rfl rfl) ?_
  refine .nil (fun hG => ?_)
  refine xa ?_; refine AOps.nil ?_
  refine ARun.ret ?_
  refine ⟨_, _, _, .tmp rfl .nil, .cons (.same _) .nil, rfl, ?_⟩
  rfl
theorem parseC_fit (s : ByteArray) : (lim (parseC s).1.1).length ≤ 1024 := by
  have h0 : (lim 0).length ≤ 1024 := by rw [lim_zero]; exact Nat.zero_le _
  unfold parseC
  split
  · exact h0
  split
  · exact h0
  split
  · exact h0
  split
  · rename_i h; exact h
  exact h0
theorem typeR_rng (e : Ca) : 0 ≤ (typeR e).1 ∧ (typeR e).1 ≤ 2 := by
  have key : ∀ (P : Nat → Bool) (o : Option Nat), o = ff P 0 → 0 ≤ (typeO o).1 ∧ (typeO o).1 ≤ 2 := by
    intro P o h
    match o with
    | none => exact ⟨by decide, by decide⟩
    | some k =>
      have h2 := List.mem_of_find?_eq_some h.symm
      rw [List.mem_range'_1] at h2
      show 0 ≤ ((k / 2 : Nat) : Int) ∧ ((k / 2 : Nat) : Int) ≤ 2
      omega
  unfold typeR
  cases okC e
  · show (0 : Int) ≤ 0 ∧ (0 : Int) ≤ 2; decide
  exact key _ _ rfl
theorem ct_lits (tl : Int) (tu : Bool) (h : 0 ≤ tl ∧ tl ≤ 2) : Cg.P.keyLits 2 ZdQ [.int .i64 tl, .bool tu] = some [.int .i64 tl, .bool tu] := by
  obtain rfl | rfl | rfl : tl = 0 ∨ tl = 1 ∨ tl = 2 := by omega
  all_goals cases tu <;> kernel_rfl
theorem Zh5 (s : ByteArray) (e : Ca) (hu : U32 e.1) : PC Cg Zbi [.str s, caD e] (fun o => o = .ret (.bool true)) := by
  have hW := ZlK s
  have hS := ZlJ s
  have hfit := parseC_fit s
  have hrng := typeR_rng e
  have hPw := ZlL e hu
  have hPs := ZlM e hu
  have hTw := ZmP e hu
  have hTs := ZmO e hu
  generalize parseC s = r at *
  generalize printR e = p at *
  generalize typeR e = t at *
  obtain ⟨xs, base, u, k⟩ := e
  obtain ⟨c, er, at'⟩ := r
  obtain ⟨v, cb, cu, cn⟩ := c
  obtain ⟨pt, pe⟩ := p
  obtain ⟨tl, tu, te⟩ := t
  show PC Cg Zbi [.str s, .agg [sln .u32 xs, .int .i64 base, .bool u, .int .i64 k]] (fun o => o = .ret (.bool true))
  refine PC.rn Zbb Zcl Zcm (rs := [.tmp 4]) (by rw [Zcn]) ?_
  refine ARun.seq (ARun.region ?_); refine xb ?_; refine xa ?_; refine AOps.nil (ARun.seq (ARun.seq ?_))
  refine ARun.join (S := Bool) (fun jv : Bool => [(17, .any), (18, .any), (19, .any), (20, .any), (21, .any), (22, .any), (23, .any), (24, .any), (25, .any), (26, .any), (27, .any), (28, .any), (29, .any), (30, .any), (31, .any), (32, .any), (33, .any), (34, .any), (35, .any), (36, .bool jv)]) (fun jv : Bool => True) (fun run => ?_) ?_
  · skip
    refine ARun.region ?_; refine xm ?_
    refine y_op rfl (Zan rfl rfl) ?_
    refine xi ?_; refine xm ?_
    refine AOps.bool 20 rfl (fun g1 => ?_) (fun g1 => ?_)
    · skip
      refine xm ?_
      refine y_op rfl (Zan rfl rfl) ?_
      refine xi ?_; refine xp ?_; refine xm ?_
      refine AOps.bool 25 rfl (fun g2 => ?_) (fun g2 => ?_)
      · skip
        refine xk ?_; refine xk ?_; refine xk ?_; refine xk ?_; refine xk ?_; refine xk ?_; refine xk ?_; refine xk ?_; refine xk ?_; refine xk ?_; refine xp ?_; refine AOps.nil ?_
        exact ARun.ag (run (true) (trivial))
      refine xf ?_; refine xl ?_; refine xN ?_; refine xi ?_; refine xm ?_
      refine AOps.bool 30 rfl (fun g3 => ?_) (fun g3 => ?_)
      · skip
        refine xf ?_; refine xl ?_; refine xN ?_; refine xi ?_; refine xp ?_; refine xp ?_; refine AOps.nil ?_
        exact ARun.ag (run (decide (((xs.length : Nat) : Int) ≤ 1024)) (trivial))
      refine xk ?_; refine xk ?_; refine xk ?_; refine xk ?_; refine xp ?_; refine xp ?_; refine AOps.nil ?_
      exact ARun.ag (run (false) (trivial))
    refine xk ?_; refine xk ?_; refine xk ?_; refine xp ?_; refine xm ?_; refine xf ?_; refine xl ?_; refine xN ?_; refine xi ?_; refine xm ?_
    refine AOps.bool 30 rfl (fun g3 => ?_) (fun g3 => ?_)
    · skip
      refine xf ?_; refine xl ?_; refine xN ?_; refine xi ?_; refine xp ?_; refine xp ?_; refine AOps.nil ?_
      exact ARun.ag (run (decide (((xs.length : Nat) : Int) ≤ 1024)) (trivial))
    refine xk ?_; refine xk ?_; refine xk ?_; refine xk ?_; refine xp ?_; refine xp ?_; refine AOps.nil ?_
    exact ARun.ag (run (false) (trivial))
  rintro jv hj
  try dsimp only at hj ⊢
  refine ARun.cond rfl (fun g => ?_) (fun g => ?_)
  · skip
    refine ARun.seq (ARun.region ?_)
    refine xc rfl rfl (PC.gl Zis) ?_
    refine xa ?_; refine AOps.nil ?_
    refine ARun.ret ?_
    refine ⟨_, _, _, .tmp rfl .nil, .cons (.same _) .nil, rfl, ?_⟩
    rfl
  refine ARun.skip (ARun.seq (ARun.region ?_)); refine xm ?_
  refine xc rfl rfl (PC.gl hW) ?_
  refine xm ?_; refine xe ?_; refine xe ?_; refine xe ?_
  refine ZbL rfl rfl rfl rfl rfl rfl rfl rfl rfl rfl rfl ?_
  refine xa ?_; refine xa ?_; refine AOps.nil (ARun.seq (ARun.region ?_)); refine xm ?_
  refine xc rfl rfl (PC.gl hS) ?_
  refine ZbL rfl rfl rfl rfl rfl rfl rfl rfl rfl rfl rfl ?_
  refine AOps.nil (ARun.seq (ARun.region ?_)); refine xL ?_
  refine xc rfl rfl (PC.gl hPw) ?_
  refine xm ?_; refine xe ?_; refine xe ?_; refine xa ?_; refine xa ?_; refine AOps.nil (ARun.seq (ARun.region ?_)); refine xL ?_
  refine xc rfl rfl (PC.gl hPs) ?_
  refine xm ?_; refine xe ?_; refine xe ?_; refine xa ?_; refine xa ?_; refine AOps.nil (ARun.seq (ARun.region ?_)); refine xL ?_
  refine xc rfl rfl (hTw) ?_
  refine xm ?_; refine xe ?_; refine xe ?_
  refine ZbL rfl rfl rfl rfl rfl rfl rfl rfl rfl rfl rfl ?_
  refine xa ?_; refine AOps.nil (ARun.seq (ARun.region ?_)); refine xL ?_
  refine xc rfl rfl (PC.gl hTs) ?_
  refine xm ?_; refine xe ?_; refine xe ?_
  refine ZbL rfl rfl rfl rfl rfl rfl rfl rfl rfl rfl rfl ?_
  refine xa ?_; refine AOps.nil (ARun.seq (ARun.region ?_))
  refine xc rfl rfl (PC.gl Zis) ?_
  refine xm ?_; refine xL ?_; refine xf ?_; refine xL ?_
  refine xc rfl rfl (PC.gl (ZmQ (v, cb, cu, cn) hfit)) ?_
  refine xp ?_; refine xm ?_; refine xm ?_; refine xf ?_; refine xl ?_
  refine y_op rfl (Zds rfl rfl rfl) ?_
  refine xp ?_; refine xm ?_; refine xm ?_; refine xf ?_; refine xl ?_
  refine y_op rfl (Zds rfl rfl rfl) ?_
  refine xp ?_; refine xm ?_; refine xm ?_; refine xm ?_
  refine y_op rfl (OpQ.cast (d' := .bool true) (Zod rfl rfl) (by simp)) ?_
  refine xp ?_; refine xm ?_; refine xm ?_; refine xm ?_
  refine y_op rfl (Zds rfl rfl rfl) ?_
  refine xp ?_; refine xm ?_; refine xL ?_; refine xL ?_
  refine y_op rfl (Zoo (m := 2) (f := 2) (r := true) (by kernel_rfl) (by decide) (by kernel_rfl) rfl rfl rfl rfl rfl rfl (ct_lits tl tu hrng) (ct_lits tl tu hrng) (by simp)) ?_
  refine xp ?_; refine xm ?_; refine xm ?_; refine xm ?_
  refine y_op rfl (Zds rfl rfl rfl) ?_
  refine xp ?_; refine xa ?_; refine AOps.nil ?_
  refine ARun.ret ?_
  refine ⟨_, _, _, .tmp rfl .nil, .cons (.same _) .nil, rfl, ?_⟩
  rfl
end Go.V
/- TABLES THAT LIE: a variable's cells, out of what it is said to hold. -/
namespace Go.V
open Go.RowKit Go.ChangeShapes Go.WideShapes
def litV : Lit → Option Value
  | .int k n => some (.int k n)
  | .bool b => some (.bool b)
  | .string l => some (.string ⟨l.toArray⟩)
  | _ => none
mutual
def flatV {H : Type} : DataW H → Option (List Value)
  | .lit l => match litV l with
    | some v => some [v]
    | none => none
  | .agg ds => flatVs ds
  | _ => none
def flatVs {H : Type} : List (DataW H) → Option (List Value)
  | [] => some []
  | d :: ds => match flatV d, flatVs ds with
    | some a, some b => some (a ++ b)
    | _, _ => none
end
def contig (P : Program) : List Field → Nat → Nat → Bool
  | [], off, tot => off == tot
  | f :: fs, off, tot => f.offset == off && contig P fs (off + P.cellsOf f.type) tot
def flatT (P : Program) : Nat → TypeId → Bool
  | 0, _ => false
  | m + 1, t => match P.underlying t with
    | some .bool => true
    | some (.int _) => true
    | some .string => true
    | some (.array n e) => flatT P m e && P.cellsOf t == n * P.cellsOf e
    | some (.struct fs) => fs.toList.all (fun f => flatT P m f.type) && contig P fs.toList 0 (P.cellsOf t)
    | _ => false
section
variable {H : Type} {enc : TypeId × Value → H} {P : Program} {w : World} {base : Nat} {sp : Nat → Bool} {held : Bool}
theorem flat_struct {fuel m : Nat} (IH : ∀ (t : TypeId) (cs : List Value) (x : DataW H × List MemPlace), flatT P m t = true → DataW.trod enc P w base sp held fuel t cs = some x → flatV x.1 = some cs) (cs : List Value) : ∀ (fs : List Field) (off : Nat) (xs : List (DataW H × List MemPlace)),
    fs.all (fun f => flatT P m f.type) = true → contig P fs off cs.length = true → fs.mapM (fun f => DataW.trod enc P w base sp held fuel f.type ((cs.drop f.offset).take (P.cellsOf f.type))) = some xs → flatVs (xs.map (·.1)) = some (cs.drop off)
  | [], off, xs, _, hc, hx => by
    simp only [contig, beq_iff_eq] at hc
    simp at hx
    subst hx
    subst hc
    simp [flatVs]
  | f :: fs, off, xs, ha, hc, hx => by
    simp only [contig, Bool.and_eq_true, beq_iff_eq] at hc
    obtain ⟨rfl, hc⟩ := hc
    rw [List.all_cons, Bool.and_eq_true] at ha
    rw [List.mapM_cons] at hx
    simp only [bind, Option.bind_eq_some_iff, pure, Option.some.injEq] at hx
    obtain ⟨x, hx1, xs', hx2, rfl⟩ := hx
    have h1 := IH _ _ _ ha.1 hx1
    have h2 := flat_struct IH cs fs _ xs' ha.2 hc hx2
    simp only [List.map_cons, flatVs, h1, h2]
    rw [← List.drop_drop, List.take_append_drop]
theorem flat_array {fuel m : Nat} {e : TypeId} (IH : ∀ (t : TypeId) (cs : List Value) (x : DataW H × List MemPlace), flatT P m t = true → DataW.trod enc P w base sp held fuel t cs = some x → flatV x.1 = some cs) (he : flatT P m e = true) (cs : List Value) : ∀ (n i : Nat) (xs : List (DataW H × List MemPlace)),
    cs.length = (i + n) * P.cellsOf e → (List.range' i n).mapM (fun i => DataW.trod enc P w base sp held fuel e ((cs.drop (i * P.cellsOf e)).take (P.cellsOf e))) = some xs → flatVs (xs.map (·.1)) = some (cs.drop (i * P.cellsOf e))
  | 0, i, xs, hc, hx => by
    simp at hx
    subst hx
    have : cs.drop (i * P.cellsOf e) = [] := List.drop_eq_nil_of_le (by rw [hc]; exact Nat.le_refl _)
    rw [this]
    simp [flatVs]
  | n + 1, i, xs, hc, hx => by
    rw [List.range'_succ, List.mapM_cons] at hx
    simp only [bind, Option.bind_eq_some_iff, pure, Option.some.injEq] at hx
    obtain ⟨x, hx1, xs', hx2, rfl⟩ := hx
    have h1 := IH _ _ _ he hx1
    have h2 := flat_array IH he cs n (i + 1) xs' (by rw [hc]; congr 1; omega) hx2
    simp only [List.map_cons, flatVs, h1, h2]
    rw [Nat.add_mul, Nat.one_mul, ← List.drop_drop, List.take_append_drop]
theorem flat_ok : ∀ (m fuel : Nat) (t : TypeId) (cs : List Value) (x : DataW H × List MemPlace), flatT P m t = true → DataW.trod enc P w base sp held fuel t cs = some x → flatV x.1 = some cs
  | 0, _, _, _, _, h, _ => by cases h
  | m + 1, 0, _, _, _, _, h => by simp [DataW.trod] at h
  | m + 1, fuel + 1, t, cs, x, hf, h => by
    unfold flatT at hf
    split at hf
    · rename_i hu
      obtain ⟨b, rfl, rfl⟩ := DataW.trod_bool hu h
      rfl
    · rename_i k hu
      obtain ⟨n, rfl, rfl, _⟩ := DataW.trod_int hu h
      rfl
    · rename_i hu
      obtain ⟨s, rfl, rfl, _⟩ := DataW.trod_string hu h
      obtain ⟨⟨l⟩⟩ := s
      rfl
    · rename_i n e hu
      rw [Bool.and_eq_true, beq_iff_eq] at hf
      unfold DataW.trod at h
      simp only [hu] at h
      split at h
      · rename_i hl
        simp only [Option.map_eq_some_iff] at h
        obtain ⟨xs, hx, rfl⟩ := h
        have := flat_array (fun t cs x => flat_ok m fuel t cs x) hf.1 cs n 0 xs (by rw [hl, hf.2, Nat.zero_add]) (by rw [← List.range_eq_range']; exact hx)
        simpa [flatV] using this
      cases h
    · rename_i fs hu
      rw [Bool.and_eq_true] at hf
      unfold DataW.trod at h
      simp only [hu] at h
      split at h
      · rename_i hl
        simp only [Option.map_eq_some_iff] at h
        obtain ⟨xs, hx, rfl⟩ := h
        have := flat_struct (fun t cs x => flat_ok m fuel t cs x) cs fs.toList 0 xs hf.1 (by rw [hl]; exact hf.2) hx
        simpa [flatV] using this
      cases h
    cases hf
end
theorem VRL_vals {w : World} {L : Nat → Prop} {g : Nat} : ∀ {ds : List D} {vs : List Value} {k : Nat}, valsD ds = some vs → (∀ (j : Nat) (v : Value), vs[j]? = some v → w.cell? ⟨g, k + j, none⟩ = some v) → VRL w L ⟨g, 0, none⟩ k ds := by
  intro ds
  induction ds with
  | nil => intro vs k _ _; simp only [VRL]
  | cons d ds ih =>
    intro vs k hv h
    simp only [valsD] at hv
    split at hv
    · rename_i v vs' h1 h2
      injection hv with hv; subst hv
      simp only [VRL]
      refine ⟨⟨v, ?_, ?_, ?_⟩, ih h2 (fun j u hj => ?_)⟩
      · have := h 0 v rfl
        by_cases hk : k = 0
        · subst hk; simpa [Addr.add] using this
        simpa [Addr.add, hk] using this
      · cases d <;> simp only [valD] at h1 <;> first | (injection h1 with h1; subst h1; rfl) | cases h1
      · cases d <;> simp only [valD] at h1 <;> first | (injection h1 with h1; subst h1; simp only [VR]) | cases h1
      rw [show k + 1 + j = k + (j + 1) by omega]
      exact h (j + 1) u (by simpa using hj)
    cases hv
end Go.V
/- THE ROWS: what the arguments read as, and what is left behind a call. -/
set_option maxRecDepth 100000
namespace Go.V
open Go.RowKit Go.Proofs Go.ChangeShapes Go.WideShapes Go.ChangeAt Go.ChangeMaps
theorem laidOutZ : laidOutB Tryz.prog = true := by kernel_rfl
theorem ownZ : ownKnob Tryz.prog.godebug = none := by kernel_rfl
theorem cell_lt {w : World} {a : Addr} {v : Value} (h : w.cell? a = some v) : a.block < w.heap.size := by
  apply Classical.byContradiction
  intro hn
  have : w.heap[a.block]? = none := by rw [Array.getElem?_eq_none_iff]; omega
  simp [World.cell?, this] at h
theorem forb0 : forb (fun _ => False) [] [] = fun _ => False := by
  funext b
  apply propext
  constructor
  · rintro (h | ⟨i, o, h, _⟩)
    · exact h
    simp at h
  exact fun h => h.elim
section
variable {H : Type} {enc : TypeId × Value → H} {W : World}
theorem vr_limbs {fuel : Nat} {cs : List Value} {x : DataW H × List MemPlace} (h : DataW.trod enc Tryz.prog W 0 (fun _ => true) true fuel 23 cs = some x) :
    ∃ (v : Value) (xs : List Nat), cs = [v] ∧ U32 xs ∧ VR W (fun _ => False) [] [] (sln .u32 xs) v := by
  rcases open_ints Tryz.underlying23 Tryz.underlying54 (by kernel_rfl) h with ⟨rfl, _⟩ | ⟨a, len, cap, zs, rfl, _, hl, hm, hz, _, hcell, hwf⟩
  · refine ⟨_, [], rfl, fun _ h => (by cases h), ?_⟩
    simp only [VR]
    exact ⟨none, 0, rfl, Nat.le_refl _, Nat.zero_le _, fun h => (h rfl).elim⟩
  simp only [if_true] at hz
  have hb : ∀ n ∈ zs, 0 ≤ n ∧ n < 4294967296 := by
    intro n hn
    have := hwf n hn
    simp [Lit.wf, IntKind.min, IntKind.max, IntKind.signed, IntKind.bits] at this
    omega
  have hu : U32 ((zs.take len).map Int.toNat) := by
    intro y hy
    obtain ⟨n, hn, rfl⟩ := List.mem_map.1 hy
    have := hb n (List.mem_of_mem_take hn)
    show n.toNat < 4294967296
    omega
  have hlen : ((zs.take len).map Int.toNat).length = len := by rw [List.length_map, List.length_take]; omega
  refine ⟨_, (zs.take len).map Int.toNat, rfl, hu, ?_⟩
  have hget : ∀ j : Nat, j < len → nts .u32 ((zs.take len).map Int.toNat) = nts .u32 ((zs.take len).map Int.toNat) → ((nts .u32 ((zs.take len).map Int.toNat))[j]? = some (.int .u32 (zs.getD j 0))) := by
    intro j hj _
    have hjz : j < zs.length := by omega
    have hn := hb (zs[j]'hjz) (List.getElem_mem hjz)
    simp only [nts, List.map_map, List.getElem?_map, List.getElem?_take, if_pos hj, List.getElem?_eq_getElem hjz, Option.map_some, Function.comp, List.getD_eq_getElem?_getD, Option.getD_some]
    congr 2
    omega
  simp only [VR]
  refine ⟨some a, cap, by rw [hlen], by rw [hlen]; exact hl, hm, fun hne => ⟨a, rfl, ?_, id, VRL_mk fun j d hd => ?_⟩⟩
  · have h0 : 0 < zs.length := by
      rcases Nat.eq_zero_or_pos zs.length with h | h
      · have : zs = [] := List.eq_nil_of_length_eq_zero h
        subst this
        simp [nts] at hne
      exact h
    exact cell_lt (hcell 0 h0)
  have hj : j < len := by
    have := (List.getElem?_eq_some_iff.1 hd).1
    simp only [nts, List.length_map, List.length_take] at this
    omega
  rw [hget j hj rfl] at hd
  injection hd with hd
  subst hd
  exact ⟨_, by rw [Nat.zero_add]; exact hcell j (by omega), rfl, by simp only [VR]⟩
theorem vr_string {base : Nat} {v : Value} {d : DataW H} {p : List MemPlace} (hv : Value.okWide Tryz.prog W .any base 9 v) (h : DataW.Trod enc Tryz.prog W 0 (fun _ => true) true 9 v d p) :
    ∃ s : ByteArray, s.size ≤ maxLen ∧ VR W (fun _ => False) [] [] (.str s) v := by
  obtain ⟨s, rfl, _, _, hs⟩ := open_string Tryz.underlying9 hv h
  exact ⟨s, hs, by simp only [VR]⟩
theorem trodAll_stays {W' : World} (hb : Below W.heap.size W W') {sp : Nat → Bool} : ∀ {ts : List TypeId} {vs : List Value} {ds : List (DataW H)} {p : List MemPlace}, (∀ t ∈ ts, Tryz.prog.readableRec t = true ∧ t < Tryz.prog.types.size) →
    DataW.TrodAll enc Tryz.prog W 0 (fun _ => true) true ts vs ds p → (∀ x ∈ p, x.block < W.heap.size ∧ sp x.block = true) → DataW.TrodAll enc Tryz.prog W' 0 sp true ts vs ds p
  | [], _, _, _, _, h, _ => by
    obtain ⟨rfl, rfl, rfl⟩ := trodAll_nil h
    simp [DataW.TrodAll]
  | t :: ts, _, _, _, ht, h, hp => by
    obtain ⟨v, vs, d, ds, a, b, rfl, rfl, rfl, h1, h2⟩ := trodAll_cons h
    obtain ⟨r1, r2⟩ := ht t (List.mem_cons_self ..)
    exact ⟨a, b, WideElems.Trod_stays laidOutZ r1 r2 h1 (fun x hx => hb.same (hp x (List.mem_append_left _ hx)).1) (fun x hx => (hp x (List.mem_append_left _ hx)).2),
      trodAll_stays hb (fun t ht' => ht t (List.mem_cons_of_mem _ ht')) h2 (fun x hx => hp x (List.mem_append_right _ hx)), rfl⟩
theorem law_post {fn : Func} {s : ChangeSpec} {W' : World} {args : Array Value} {ds : List (DataW H)} {before : List MemPlace} (hs : s.vars = []) (hW : DataW.Whole enc Tryz.prog fn.params.toList s.vars false W args.toList ds [] before) (hf : s.fn H ds = { results := [.lit (.bool true)], args := ds })
    (hr : fn.resultTypes = #[4]) (hts : ∀ t ∈ fn.params.toList, Tryz.prog.readableRec t = true ∧ t < Tryz.prog.types.size) (hb : Below W.heap.size W W') : s.post enc Tryz.prog fn false true false false W args (.bool true) W' := by
  have hW' := hW
  obtain ⟨p, q, hA, hV, rfl, _, _⟩ := hW
  rw [hs] at hV
  obtain ⟨_, rfl⟩ := trodVars_none hV
  have hlt : ∀ x ∈ p, x.block < W.heap.size := fun x hx => by simpa using hW'.lt x (List.mem_append_left _ hx)
  refine ⟨ds, [], p ++ [], [], p, [], hW', ?_, ?_, ?_, hb.frame _, fun h => by cases h⟩
  · rw [List.append_nil, hf, hr]
    exact trodAll_mk1 (shut_bool Tryz.underlying4 _)
  · rw [List.append_nil, hf]
    exact trodAll_stays hb hts hA fun x hx => ⟨hlt x hx, by simpa using hlt x hx⟩
  rw [List.append_nil, hf, hs]
  rfl
end
end Go.V
/- THE ROW of a law that reads the table of types: the table, as it lies; constants that come in. -/
set_option maxRecDepth 100000
namespace Go.V
open Go.RowKit Go.Proofs Go.ChangeShapes Go.WideShapes Go.ChangeAt Go.ChangeMaps Go.Proofs.YtjohcjagbodicaaGreatDoor
theorem types_laid {W : World} (h : laidMetH Tryz.prog Rows.wholeConstantsRow.laid W) : 0 < W.heap.size ∧ VRL W (fun _ => False) ⟨0, 0, none⟩ 0 tyCells := by
  rw [MakeChecks.laidMetH_plain _ _ _ (by kernel_rfl)] at h
  obtain ⟨ps, ⟨g0, t0, cs0, f0, p0, q0, hg0, ht0, hv0, hd0, ⟨g1, t1, cs1, f1, p1, q1, hg1, ht1, hv1, hd1, _, _⟩, _⟩, _, _⟩ := h
  have gT : Tryz.prog.globalNamed "soroban/whole.types" = some 0 := by kernel_rfl
  have tT : (Tryz.prog.globals[0]?).map (·.type) = some 170 := by kernel_rfl
  obtain rfl := Option.some.inj (gT.symm.trans hg1)
  obtain rfl := Option.some.inj (tT.symm.trans ht1)
  have hf := flat_ok 4 f1 170 cs1.toList _ (by kernel_rfl) hd1
  have hV : valsD tyCells = flatV (Rows.laid_soroban_whole_types (H := Unit)) := by rfl
  have hcs : valsD tyCells = some cs1.toList := hV.trans hf
  have hcell : ∀ (j : Nat) (v : Value), cs1.toList[j]? = some v → W.cell? ⟨0, 0 + j, none⟩ = some v := fun j v hj => by
    rw [Nat.zero_add, World.var?_cell hg1 hv1 j]
    simpa using hj
  refine ⟨?_, VRL_vals hcs hcell⟩
  have h0 : ∃ v, cs1.toList[0]? = some v := by
    have : cs1.toList = [.int .i64 0, .bool false, .int .i64 31, .int .i64 0, .bool true, .int .i64 32, .int .i64 1, .bool false, .int .i64 63, .int .i64 1, .bool true, .int .i64 64, .int .i64 2, .bool false, .int .i64 63, .int .i64 2, .bool true, .int .i64 64] := Option.some.inj (hcs.symm.trans rfl)
    rw [this]; exact ⟨_, rfl⟩
  obtain ⟨v, hv⟩ := h0
  exact cell_lt (hcell 0 v hv)
theorem SRg {W : World} (h : 0 < W.heap.size ∧ VRL W (fun _ => False) ⟨0, 0, none⟩ 0 tyCells) : SR Cg (fun _ => False) W [] [] :=
  ⟨rfl, fun i o b h => by simp at h, fun i j oi oj b h => by simp at h, fun i o b h => by simp at h, fun b h => h.elim, fun g cs hg => by
    have hg : (g, cs) ∈ [(0, tyCells)] := hg
    rw [List.mem_singleton] at hg
    obtain ⟨rfl, rfl⟩ := Prod.mk.inj hg
    rw [forb0]
    exact ⟨h.1, fun h => h, h.2⟩⟩
theorem law_callsG {f : FuncId} {ds : List D} {W : World} {vs : List Value} (hl : 0 < W.heap.size ∧ VRL W (fun _ => False) ⟨0, 0, none⟩ 0 tyCells) (hc : PC Cg f ds (fun o => o = .ret (.bool true))) (hv : VRs W (fun _ => False) [] [] ds vs) : Calls Tryz.prog f vs.toArray W fun e W' => e = .returned (.bool true) ∧ Below W.heap.size W W' := by
  have h := (hc []).2 (fun _ => False) W [] vs (SRg hl) (by rw [forb0]; exact hv)
  refine h.mono ?_
  rintro e W' ⟨o, H', μ', ⟨rfl, rfl⟩, _, ⟨v, he, hv'⟩, hevo⟩
  simp only [VR] at hv'
  subst hv'
  exact ⟨he, hevo.os, hevo.tape, hevo.output, hevo.size, fun k hk => hevo.chg k hk fun ⟨i, o, h, _⟩ => by simp at h⟩
section
variable {H : Type} {enc : TypeId × Value → H} {W : World}
theorem vr_Con {base : Nat} {v : Value} {d : DataW H} {p : List MemPlace} (hv : Value.okWide Tryz.prog W .any base 87 v) (h : DataW.Trod enc Tryz.prog W 0 (fun _ => true) true 87 v d p) :
    ∃ e : Ca, U32 e.1 ∧ VR W (fun _ => False) [] [] (caD e) v := by
  obtain ⟨cs, rfl, hsz⟩ := okWide_struct Tryz.underlying87 hv
  obtain ⟨fuel, hf⟩ := h
  obtain ⟨xs, n, _, _, hl, hlen, hall⟩ := DataW.trod_struct Tryz.underlying87 hf
  have c87 : Tryz.prog.cellsOf 87 = 4 := by kernel_rfl
  have c23 : Tryz.prog.cellsOf 23 = 1 := by kernel_rfl
  have c3 : Tryz.prog.cellsOf 3 = 1 := by kernel_rfl
  have c4 : Tryz.prog.cellsOf 4 = 1 := by kernel_rfl
  rw [c87] at hsz
  obtain ⟨l⟩ := cs
  match l, hsz, xs, hlen with
  | [v0, v1, v2, v3], _, [x0, x1, x2, x3], _ =>
    have h0 : DataW.trod enc Tryz.prog W 0 (fun _ => true) true n 23 ((([v0, v1, v2, v3] : List Value).drop 0).take (Tryz.prog.cellsOf 23)) = some x0 := hall 0 _ rfl
    have h1 : DataW.trod enc Tryz.prog W 0 (fun _ => true) true n 3 ((([v0, v1, v2, v3] : List Value).drop 1).take (Tryz.prog.cellsOf 3)) = some x1 := hall 1 _ rfl
    have h2 : DataW.trod enc Tryz.prog W 0 (fun _ => true) true n 4 ((([v0, v1, v2, v3] : List Value).drop 2).take (Tryz.prog.cellsOf 4)) = some x2 := hall 2 _ rfl
    have h3 : DataW.trod enc Tryz.prog W 0 (fun _ => true) true n 3 ((([v0, v1, v2, v3] : List Value).drop 3).take (Tryz.prog.cellsOf 3)) = some x3 := hall 3 _ rfl
    rw [c23] at h0
    rw [c3] at h1 h3
    rw [c4] at h2
    obtain ⟨w0, es, e0, hu, hx⟩ := vr_limbs (x := x0) h0
    obtain ⟨n1, e1, _, _⟩ := DataW.trod_int (x := x1) Tryz.underlying3 h1
    obtain ⟨b2, e2, _⟩ := DataW.trod_bool (x := x2) Tryz.underlying4 h2
    obtain ⟨n3, e3, _, _⟩ := DataW.trod_int (x := x3) Tryz.underlying3 h3
    simp at e0 e1 e2 e3
    subst e0; subst e1; subst e2; subst e3
    refine ⟨(es, n1, b2, n3), hu, ?_⟩
    simp only [VR, VRs]
    refine ⟨_, rfl, v0, _, rfl, ?_, _, _, rfl, rfl, _, _, rfl, rfl, _, _, rfl, rfl, rfl⟩
    simpa only [VR] using hx
end
end Go.V
/- The closed facts of a row, one by one: what holds of the program itself, and how they are joined; no condition. -/
set_option maxRecDepth 100000
namespace Go.V
open Go.Proofs
theorem and_t {a b : Bool} (h1 : a = true) (h2 : b = true) : (a && b) = true := by rw [h1, h2]; rfl
theorem joined_of {P : Program} {f : FuncId} {fn : Func} {s : ChangeSpec} {c : OpenClaim}
    (k1 : (c.wf (OpenSpec.ofChange s)) = true)
    (k2 : (laidOutB P) = true)
    (k3 : (mapsRowed P) = true)
    (k4 : (fn.params.all (P.readableRec ·)) = true)
    (k5 : (namedTie P c.named s.vars) = true)
    (k6 : (c.stops == []) = true)
    (k7 : (P.stops == []) = true)
    (k8 : (c.knobs == []) = true)
    (k9 : (P.stopKnobs == []) = true)
    (k10 : (c.inPlace == P.inPlace f) = true)
    (k11 : (c.unfollowed == P.unfollowed f) = true)
    (k12 : (c.recurses == P.recurses f) = true)
    (k13 : (c.named == P.varsNamed f) = true)
    (k14 : ((c.maps == (fn.params.toList ++ s.plain.varTypes P).any (P.mapsRec ·))) = true)
    (k15 : ((c.ifaces == (fn.params.toList ++ s.plain.varTypes P).any (P.ifacesRec ·))) = true)
    (k16 : (c.mapsOut == P.mapsAmong fn.resultTypes.toList) = true)
    (k17 : ((c.loops == (fn.params.toList ++ s.plain.varTypes P).any (P.loopsFrom ·))) = true)
    (k18 : ((c.wideKeys == (fn.params.toList ++ s.plain.varTypes P ++ fn.resultTypes.toList).any (P.wideKeysFrom ·))) = true)
    (k19 : (s.vars.all (P.varReadable ·)) = true)
    (k20 : (fn.resultTypes.all (fun t => P.readableRec t && decide (t < P.types.size))) = true)
    (k21 : ((c.ifacesOut == fn.resultTypes.toList.any (P.ifacesRec ·))) = true)
    (k22 : ((c.loopsOut == fn.resultTypes.toList.any (P.loopsFrom ·))) = true)
    (k23 : (c.plainKeys == P.plainKeys) = true)
    (k24 : (c.shortTexts.isNone) = true)
    (k25 : (P.stopsHeard) = true)
    (k26 : (P.mayEnter) = true)
    (k27 : (c.lifted == P.liftsFinal) = true)
    (k28 : (P.make == some c.make) = true)
    (k29 : ((c.kinds == (if c.domain.isEmpty then [] else fn.params.toList.map fun t => match P.underlying t with | some (.int k) => some k | _ => none))) = true)
    (k30 : (c.pinned == c.pinnedBy) = true)
    (k31 : ((c.veiled == (fn.params.toList ++ s.plain.varTypes P ++ fn.resultTypes.toList).any (P.veiledRec ·))) = true)
    (k32 : (c.veiledFits P fn.params.toList (fn.params.toList ++ s.plain.varTypes P ++ fn.resultTypes.toList)) = true)
    : joinedFacts P f fn s c = true := by
  unfold joinedFacts
  exact and_t (and_t (and_t (and_t (and_t (and_t (and_t (and_t (and_t (and_t (and_t (and_t (and_t (and_t (and_t (and_t (and_t (and_t (and_t (and_t (and_t (and_t (and_t (and_t (and_t (and_t (and_t (and_t (and_t (and_t (and_t k1 k2) k3) k4) k5) k6) k7) k8) k9) k10) k11) k12) k13) k14) k15) k16) k17) k18) k19) k20) k21) k22) k23) k24) k25) k26) k27) k28) k29) k30) k31) k32
theorem z_maps : mapsRowed Tryz.prog = true := by kernel_rfl
theorem z_plainKeys : (Go.Proofs.YtjohcjagbodicaaGreatDoor.Rows.wholeSumsRow.plainKeys == Tryz.prog.plainKeys) = true := by kernel_rfl
theorem z_stopsHeard : Tryz.prog.stopsHeard = true := by kernel_rfl
theorem z_lifts : (Go.Proofs.YtjohcjagbodicaaGreatDoor.Rows.wholeSumsRow.lifted == Tryz.prog.liftsFinal) = true := by kernel_rfl
theorem z_make : (Tryz.prog.make == some Go.Proofs.YtjohcjagbodicaaGreatDoor.Rows.wholeSumsRow.make) = true := by kernel_rfl
theorem z_main : YtjohcjagbodicaaGreatDoor.Tryz.pinned.checked.prog.mainIs = some (true, "5b8a1e8da34a88fc5bd34c331ad38cb7b46866bf85af6ffc6bc920dabf7d6da1".toList) := by kernel_rfl
theorem z_looks : true = Tryz.prog.looks [] := by kernel_rfl
theorem z_enter : Tryz.prog.mayEnter = true := by kernel_rfl
end Go.V
