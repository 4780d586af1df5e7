/- A part of the proof: abstract values, rules for the steps of the program's form, and contracts of its functions, each proved; no condition. -/
import Derived.Test.YthankfodgdfgaaaDoorA13
import Derived.Laws.IdiomArrays
import Derived.Deep.Slices
import Derived.Maps.RangeWalk
import Derived.Test.YthankfodgdfgaaaDoorTie
import Derived.Test.YthankfodgdfgaaaDoorCards
import Derived.ProofKit
import Derived.OpenShut
import Derived.LaidMore
import Derived.Lay
import Derived.SevenTiedAt
import Derived.Carry
import Derived.Stop.Joined
import Derived.Lib.LaidIn
set_option linter.unusedVariables false
set_option linter.unusedSimpArgs false
set_option linter.unnecessarySimpa false
set_option maxHeartbeats 1000000
set_option maxRecDepth 100000
namespace Go.V
open Go.RowKit Go.Proofs
/-! WHAT IS READ IS A GOOD LIST. -/
theorem wfI {a : Int} (h : 0 ≤ a) (h2 : a ≤ 1000000) : (Lit.int .i64 a).wf = true := by
  simp [Lit.wf, IntKind.min, IntKind.max, IntKind.signed, IntKind.bits]; omega
def PcG (p : Pc) : Prop := svalid p = true ∧ p.conv < 256 ∧ p.lit.size ≤ 2000
theorem PcG.f {p : Pc} (h : PcG p) : PcF p := by
  obtain ⟨h1, h2, h3⟩ := h
  have := svalid_rng h1
  exact ⟨⟨by omega, h2⟩, wfI (by omega) (by omega), wfI (by omega) (by omega), wfI (by omega) (by omega)⟩
theorem convE_is {cnt n wid len c : Nat} {w pl mute pos : Bool} {S : Nat → Bool} {r : List Nat} {p : Pc} {q : List Nat} {c' : Nat} {w' pl' : Bool} (h : convE cnt w pl n mute pos wid len c S r = .ok p q c' w' pl') :
    ∃ A : Nat, p = ⟨ByteArray.empty, (A : Int), (wid : Int), (len : Int), c, S⟩ ∧ A ≤ 64 ∧ wid ≤ 10000 ∧ (mute = false → A ≠ 0) := by
  unfold convE at h
  cases h1 : (w || pos) && (pl || (!mute && decide (n = 0)))
  · rw [h1, cond_false] at h
    cases h2 : decide (10000 < wid) || decide (64 < (if (!mute && decide (n = 0)) = true then cnt + 1 else n))
    · rw [h2, cond_false] at h
      injection h with a1
      rw [Bool.or_eq_false_iff, decide_eq_false_iff_not, decide_eq_false_iff_not] at h2
      refine ⟨_, a1.symm, by omega, by omega, fun hm => ?_⟩
      subst hm
      simp only [Bool.not_false, Bool.true_and, decide_eq_true_eq]
      split
      · omega
      assumption
    rw [h2, cond_true] at h; cases h
  rw [h1, cond_true] at h; cases h
theorem sEq_rfl (S : Nat → Bool) : sEq S S = true := sEq_ext.2 fun _ _ => rfl
theorem convC_good {cnt n wid len : Nat} {w pl mute pos : Bool} {r : List Nat} {p : Pc} {q : List Nat} {c' : Nat} {w' pl' : Bool} (h : convC cnt w pl n mute pos wid len r = .ok p q c' w' pl') : PcG p := by
  have hcl := convC_conv h
  have hpl := sclass_plain hcl
  have hmem := classF_mem p.conv hcl
  have hlt : p.conv < 256 := by
    simp only [List.mem_cons, List.not_mem_nil, or_false] at hmem; omega
  cases r with
  | nil => cases h
  | cons c r =>
    rw [convC] at h
    cases h1 : (decide (sclass c = 0) || !slong ((sclass c : Nat) : Int) (len : Int)) || (decide (sclass c = 5) && (mute || decide (0 < wid)))
    · rw [h1, cond_false] at h
      simp only [Bool.or_eq_false_iff, decide_eq_false_iff_not, Bool.not_eq_false'] at h1
      obtain ⟨⟨_, hsl⟩, h5⟩ := h1
      have fin : ∀ (S : Nat → Bool) (q1 : List Nat), (if c = 91 then S 0 = false else S = sempty) → convE cnt w pl n mute pos wid len c S q1 = .ok p q c' w' pl' → PcG p := fun S q1 hS hE => by
        obtain ⟨A, hp, hA, hw, hm⟩ := convE_is hE
        refine ⟨?_, hlt, by rw [hp]; exact Nat.zero_le _⟩
        have hcv : p.conv = c := by rw [hp]
        have hspl : spl p = false := by
          unfold spl
          rw [decide_eq_false hpl.2.1, decide_eq_false hpl.1, decide_eq_false hpl.2.2]; rfl
        unfold svalid
        rw [hspl, cond_false]
        have b1 : ((((((decide (sclass p.conv = 0) || !decide (sby p.lit = [])) || decide (p.arg < 0)) || decide (p.arg > 64)) || decide (p.wid < 0)) || decide (p.wid > 10000)) || !slong ((sclass p.conv : Nat) : Int) p.len) = false := by
          have ha : p.arg = (A : Int) := by rw [hp]
          have hwd : p.wid = (wid : Int) := by rw [hp]
          have hln : p.len = (len : Int) := by rw [hp]
          have hlit : sby p.lit = [] := by rw [hp]; rfl
          rw [decide_eq_false hcl, hlit, ha, hwd, hln, hcv, hsl, decide_eq_false (show ¬ (A : Int) < 0 by omega), decide_eq_false (show ¬ (A : Int) > 64 by omega), decide_eq_false (show ¬ (wid : Int) < 0 by omega), decide_eq_false (show ¬ (wid : Int) > 10000 by omega)]; rfl
        rw [b1, cond_false]
        have b2 : (decide (p.conv = 110) && (decide (p.arg = 0) || decide (p.wid > 0))) = false := by
          by_cases h110 : p.conv = 110
          · have h5' : sclass c = 5 := by rw [← hcv, h110]; rfl
            rw [decide_eq_true h5', Bool.true_and, Bool.or_eq_false_iff] at h5
            have hA0 := hm h5.1
            have hw0 := of_decide_eq_false h5.2
            have ha : p.arg = (A : Int) := by rw [hp]
            have hwd : p.wid = (wid : Int) := by rw [hp]
            rw [ha, hwd, decide_eq_false (show ¬ (A : Int) = 0 by omega), decide_eq_false (show ¬ (wid : Int) > 0 by omega), Bool.or_false, Bool.and_false]
          rw [decide_eq_false h110]; rfl
        rw [b2, cond_false]
        have hset : p.set = S := by rw [hp]
        by_cases h91 : c = 91
        · rw [if_pos h91] at hS
          rw [decide_eq_true (hcv.trans h91), cond_true, hset, hS]; rfl
        rw [if_neg h91] at hS
        rw [decide_eq_false (by rw [hcv]; exact h91), cond_false, hset, hS]; exact sEq_rfl _
      by_cases hc : c = 91
      · rw [if_pos hc] at h
        cases hs : stL r with
        | none => rw [hs] at h; cases h
        | some x =>
          obtain ⟨S, q1⟩ := x
          rw [hs] at h
          have h0 : S 0 = false := by
            unfold stL at hs
            split at hs
            · cases hs
            split at hs
            · rename_i hz
              injection hs with hs
              injection hs with hS _
              rw [← hS]
              exact (readS_ok (Prod.ext rfl hz)).2.2
            cases hs
          exact fin S q1 (by rw [if_pos hc]; exact h0) h
      rw [if_neg hc] at h
      exact fin sempty r (by rw [if_neg hc]) h
    rw [h1, cond_true] at h; cases h
theorem bare_good {s : ByteArray} {c : Nat} (hc : c = 32 ∨ c = 37 ∨ c = 0) (h1 : c ≠ 0 → s = ByteArray.empty) (h2 : c = 0 → slit s = true) (hs : s.size ≤ 2000) : PcG (bareP s 0 0 0 c) := by
  refine ⟨?_, by show c < 256; omega, hs⟩
  have hspl : spl (bareP s 0 0 0 c) = true := by
    unfold spl
    rcases hc with rfl | rfl | rfl <;> rfl
  unfold svalid
  rw [hspl, cond_true]
  show ((((decide ((0 : Int) = 0) && decide ((0 : Int) = 0)) && decide ((0 : Int) = 0)) && sEq sempty sempty) && ((decide (c = 0) && slit s) || (!decide (c = 0) && decide (sby s = [])))) = true
  rw [sEq_rfl]
  by_cases h0 : c = 0
  · rw [h2 h0, decide_eq_true h0]; rfl
  rw [h1 h0, decide_eq_false h0]; rfl
theorem pieceL_good {cnt : Nat} {w pl : Bool} {r : List Nat} {p : Pc} {q : List Nat} {c' : Nat} {w' pl' : Bool} (hb : ∀ c ∈ r, c < 256) (hl : r.length ≤ 2000) (h : pieceL cnt w pl r = .ok p q c' w' pl') :
    PcG p ∧ (p.conv = 32 → ∃ a t, r = a :: t ∧ swhite a = true) ∧ (p.conv = 0 → ∃ a t, r = a :: t ∧ splain a = true) := by
  cases r with
  | nil => cases h
  | cons c r =>
    rw [pieceL] at h
    cases hw : swhite c
    · rw [hw, cond_false] at h
      by_cases h37 : c = 37
      · rw [if_pos h37] at h
        cases hp : hdIs r 37
        · rw [hp, cond_false] at h
          cases hc : convL cnt w pl r with
          | bad => rw [hc] at h; cases h
          | lim => rw [hc] at h; cases h
          | ok p1 q1 c1 w1 pl1 =>
            rw [hc] at h
            injection h with e1
            subst e1
            have hcl := sclass_plain (convC_conv hc)
            exact ⟨convC_good hc, fun e => absurd e hcl.2.1, fun e => absurd e hcl.1⟩
        rw [hp, cond_true] at h
        injection h with e1
        subst e1
        exact ⟨bare_good (.inr (.inl rfl)) (fun _ => rfl) (fun e => absurd e (by decide)) (Nat.zero_le _), fun e => absurd e (by show (37 : Nat) ≠ 32; decide), fun e => absurd e (by show (37 : Nat) ≠ 0; decide)⟩
      rw [if_neg h37] at h
      cases h0 : hdIs (runL splain (c :: r)).2 0
      · rw [h0, cond_false] at h
        have hall := runL_all splain (c :: r)
        have happ := runL_app splain (c :: r)
        by_cases hc0 : c = 0
        · exfalso
          subst hc0
          have : (runL splain (0 :: r)).2 = 0 :: r := rfl
          rw [this] at h0; cases h0
        have hpc : splain c = true := by
          unfold splain
          rw [decide_eq_true hc0, decide_eq_true h37, hw]; rfl
        have hx : ∃ y, (runL splain (c :: r)).1 = c :: y := by rw [runL, hpc]; exact ⟨_, rfl⟩
        obtain ⟨y, hy⟩ := hx
        generalize hX : (runL splain (c :: r)).1 = X at *
        generalize hQ : (runL splain (c :: r)).2 = Q at *
        injection h with e1
        subst e1
        have hXb : ∀ b ∈ X, b < 256 := fun b hbx => hb b (by rw [← happ]; exact List.mem_append_left _ hbx)
        have hXl : X.length ≤ 2000 := by
          have := congrArg List.length happ
          rw [List.length_append] at this; omega
        refine ⟨bare_good (.inr (.inr rfl)) (fun e => absurd rfl e) (fun _ => ?_) (by rw [bytesOf_size]; exact hXl), fun e => absurd e (by show (0 : Nat) ≠ 32; decide), fun _ => ⟨c, r, rfl, hpc⟩⟩
        unfold slit
        rw [sby_bytesOf hXb, bytesOf_size, Bool.and_eq_true, decide_eq_true_eq, List.all_eq_true]
        exact ⟨by rw [hy]; simp, hall⟩
      rw [h0, cond_true] at h; cases h
    rw [hw, cond_true] at h
    injection h with e1
    subst e1
    exact ⟨bare_good (.inl rfl) (fun _ => rfl) (fun e => absurd e (by decide)) (Nat.zero_le _), fun _ => ⟨c, r, rfl, hw⟩, fun e => absurd e (by show (32 : Nat) ≠ 0; decide)⟩
theorem prsG_good : ∀ (f m cnt : Nat) (w pl : Bool) (r : List Nat) (l : List Pc) (q : List Nat), m ≤ 500 → (∀ c ∈ r, c < 256) → r.length ≤ 2000 → prsG f m cnt w pl r = (l, 0, q) →
    (∀ p ∈ l, PcG p) ∧ m + l.length ≤ 500 ∧ chn l ∧ ∀ p t, l = p :: t → (p.conv = 32 → ∃ a t, r = a :: t ∧ swhite a = true) ∧ (p.conv = 0 → ∃ a t, r = a :: t ∧ splain a = true)
  | 0, _, _, _, _, _, _, _, _, _, _, h => by injection h with _ h; injection h with h _; cases h
  | f + 1, m, cnt, w, pl, r, l, q, hm, hb, hl, h => by
    rw [prsG] at h
    by_cases h1 : r = []
    · rw [if_pos h1] at h
      injection h with h _
      subst h
      exact ⟨fun _ h => (by cases h), hm, trivial, fun _ _ e => (by cases e)⟩
    rw [if_neg h1] at h
    by_cases h2 : m = 500
    · rw [if_pos h2] at h; injection h with _ h; injection h with h _; cases h
    rw [if_neg h2] at h
    cases hp : pieceL cnt w pl r with
    | err e q0 =>
      rw [hp] at h
      have h : (([], e, q0) : List Pc × Int × List Nat) = (l, 0, q) := h
      injection h with _ h
      injection h with h _
      rcases pieceL_err hp with e6 | e2
      · rw [h] at e6; exact absurd e6 (by decide)
      rw [h] at e2; exact absurd e2 (by decide)
    | ok p r' c' w' pl' =>
      rw [hp] at h
      have h : (p :: (prsG f (m + 1) c' w' pl' r').1, (prsG f (m + 1) c' w' pl' r').2) = (l, ((0 : Int), q)) := h
      injection h with hl1 h
      obtain ⟨g1, g2, g3⟩ := pieceL_good hb hl hp
      obtain ⟨u, hu⟩ := pieceL_suf hp
      have hok := pieceL_ok hp
      have hfo := (pieceL_loc hp).1
      obtain ⟨i1, i2, i3, i4⟩ := prsG_good f (m + 1) c' w' pl' r' (prsG f (m + 1) c' w' pl' r').1 q (by omega) (fun c hc => hb c (by rw [hu]; exact List.mem_append_right _ hc)) (by omega) (by rw [← h])
      generalize (prsG f (m + 1) c' w' pl' r').1 = l1 at *
      subst hl1
      refine ⟨fun x hx => ?_, by rw [List.length_cons]; omega, ?_, fun x t e => ?_⟩
      · rcases List.mem_cons.1 hx with rfl | hx
        · exact g1
        exact i1 x hx
      · cases l1 with
        | nil => trivial
        | cons x t =>
          refine ⟨fun hh => ?_, i3⟩
          obtain ⟨j1, j2⟩ := i4 x t rfl
          rcases hh.2 with e | e
          · obtain ⟨a, s, e1, e2⟩ := j2 e
            have := ((hfo a s e1).2 (by rw [← hh.1, e])).1
            rw [e2] at this; cases this
          obtain ⟨a, s, e1, e2⟩ := j1 e
          have := (hfo a s e1).1 (by rw [← hh.1, e])
          rw [e2] at this; cases this
      injection e with e _
      subst e
      exact ⟨g2, g3⟩
theorem sadj_of : ∀ (l : List Pc), chn l → ∀ j, j < l.length → sadj l j = false
  | [], _, j, h => absurd h (Nat.not_lt_zero j)
  | [p], _, j, h => by
    have : j = 0 := by simp only [List.length_cons, List.length_nil] at h; omega
    subst this; rfl
  | p :: q :: r, hc, 0, _ => rfl
  | p :: q :: r, hc, 1, _ => by
    unfold sadj
    show (decide (0 < 1) && (decide (q.conv = p.conv) && (decide (q.conv = 0) || decide (q.conv = 32)))) = false
    have := hc.1
    by_cases e : q.conv = p.conv
    · rw [decide_eq_true e, Bool.true_and, ← Bool.decide_or, decide_eq_false (fun h => this ⟨e, h⟩)]; rfl
    rw [decide_eq_false e]; rfl
  | p :: q :: r, hc, j + 2, h => by
    have ih := sadj_of (q :: r) hc.2 (j + 1) (by simp only [List.length_cons] at h ⊢; omega)
    unfold sadj at ih ⊢
    rw [decide_eq_true (show 0 < j + 1 by omega)] at ih
    rw [decide_eq_true (show 0 < j + 2 by omega)]
    exact ih
theorem schk_ok' {l : List Pc} (h : ∀ i, i < l.length → sbad l i = false) (hg : (sgr l).2 = true) (i : Nat) : schk l i = (0, 0) := by
  by_cases hi : i < l.length
  · rw [schk_go hi (h i hi)]; exact schk_ok' h hg (i + 1)
  rw [schk_end hi, hg]; rfl
termination_by l.length - i
theorem parse_good {s : ByteArray} {l : List Pc} {o : Int} (h : parseF s = (l, 0, o)) : (∀ p ∈ l, PcG p) ∧ l.length ≤ 500 ∧ (scheck l).1 = 0 := by
  by_cases hs : s.size ≤ 2000
  · rw [parse_G hs] at h
    have hl := sby_len s
    generalize hg : prsG (s.size + 1) 0 0 false false (sby s) = g at *
    obtain ⟨gl, ge, gq⟩ := g
    simp only at h
    by_cases h0 : ge = 0
    · subst h0
      rw [if_pos rfl] at h
      cases hb : (sgr gl).2
      · rw [hb, cond_false] at h; injection h with _ h; injection h with h _; exact absurd h (by decide)
      rw [hb, cond_true] at h
      injection h with h _
      subst h
      obtain ⟨a, b, c, _⟩ := prsG_good _ _ _ _ _ _ _ _ (Nat.zero_le _) (fun c hc => sby_mem hc) (by omega) hg
      refine ⟨a, by omega, ?_⟩
      unfold scheck
      rw [if_neg (by omega), schk_ok' (fun i hi => ?_) hb]
      unfold sbad
      rw [sadj_of gl c i hi, List.getD_eq_getElem?_getD, List.getElem?_eq_getElem hi]
      have := (a _ (List.getElem_mem hi)).1
      show (!svalid gl[i] || false) = false
      rw [this]; rfl
    rw [if_neg h0] at h
    injection h with _ h; injection h with h _
    exact absurd h h0
  unfold parseF at h
  rw [if_pos (by omega)] at h
  injection h with _ h; injection h with h _; exact absurd h (by decide)
theorem parse_bad {s : ByteArray} {l : List Pc} {e o : Int} (h : parseF s = (l, e, o)) (he : e ≠ 0) : l = [] := by
  by_cases hs : s.size ≤ 2000
  · rw [parse_G hs] at h
    generalize prsG (s.size + 1) 0 0 false false (sby s) = g at *
    by_cases h0 : g.2.1 = 0
    · rw [if_pos h0] at h
      cases hb : (sgr g.1).2
      · rw [hb, cond_false] at h; injection h with h _; exact h.symm
      rw [hb, cond_true] at h; injection h with _ h; injection h with h _; exact absurd h.symm he
    rw [if_neg h0] at h; injection h with h _; exact h.symm
  unfold parseF at h
  rw [if_pos (by omega)] at h
  injection h with h _; exact h.symm
end Go.V
set_option maxHeartbeats 8000000
set_option maxRecDepth 100000
set_option synthInstance.maxSize 100000
set_option synthInstance.maxHeartbeats 2000000
namespace Go.V
open Go.RowKit Go.Proofs
theorem ssame_rfl : ∀ (l : List Pc), ssame l l = true
  | [] => rfl
  | p :: l => by rw [ssame, pEq_rfl, ssame_rfl l]; rfl
theorem sPrint_lim {l : List Pc} (h : (scheck l).1 = 0) (h2 : (sPrint l).2 ≠ 0) : (sPrint l).2 = 2 := by
  unfold sPrint at h2 ⊢
  rw [if_pos h] at h2 ⊢
  split at h2
  · rename_i g; rw [if_pos g]
  exact absurd rfl h2
end Go.V
set_option maxHeartbeats 8000000
set_option maxRecDepth 100000
set_option synthInstance.maxSize 100000
set_option synthInstance.maxHeartbeats 2000000
namespace Go.V
open Go.RowKit Go.Proofs
theorem ScanAgain_bad (s : ByteArray) {e o : Int} (hp : parseF s = ([], e, o)) (he : e ≠ 0) : PC Cg ZaK [.str s] (fun o => o = .ret (.bool true)) := by
  have c1 := Zbh s
  rw [hp] at c1
  simp only at c1
  refine PC.rn ZaA Za3 Za4 (rs := [.tmp 2]) (by rw [Za5]) ?_
  refine ARun.seq (ARun.region ?_); refine zza ?_; refine AOps.nil (ARun.seq (ARun.region ?_))
  refine zzc rfl rfl (ZeD) ?_
  refine zza ?_; refine AOps.nil (ARun.seq (ARun.region ?_)); refine zzm ?_
  refine zzc rfl rfl (c1) ?_
  refine zzm ?_; refine zze ?_; refine zze ?_; refine zze ?_; refine zza ?_; refine zza ?_; refine zza ?_; refine AOps.nil (ARun.seq (ARun.seq (ARun.region ?_))); refine zzm ?_
  refine y_op rfl (OpQ.cast (d' := .bool true) (q_int rfl rfl rfl) (congrArg D.bool (show (e != 0) = true from bne_iff_ne.2 he))) ?_
  refine AOps.nil ?_
  refine ARun.condT rfl ?_
  refine ARun.seq (ARun.region ?_); refine zzm ?_; refine zzm ?_; refine zzm ?_; refine zzN ?_; refine zzi ?_; refine zzp ?_; refine zza ?_; refine AOps.nil ?_
  refine ARun.ret ?_
  refine ⟨_, _, _, .tmp rfl .nil, .cons (.same _) .nil, rfl, ?_⟩
  rfl
theorem ScanAgain_lim (s : ByteArray) {l : List Pc} {o : Int} (hp : parseF s = (l, 0, o)) (h2 : (sPrint l).2 = 2) : PC Cg ZaK [.str s] (fun o => o = .ret (.bool true)) := by
  have c1 := Zbh s
  rw [hp] at c1
  simp only at c1
  obtain ⟨hg, hl, hc⟩ := parse_good hp
  have hf : ∀ p ∈ l, PcF p := fun p h => (hg p h).f
  have c2 := Zck l hf (by omega)
  have c3 := ZdR l hf (fun p h => Nat.le_trans (hg p h).2.2 (by decide)) (by omega)
  rw [hc] at c2
  rw [h2] at c3
  refine PC.rn ZaA Za3 Za4 (rs := [.tmp 2]) (by rw [Za5]) ?_
  refine ARun.seq (ARun.region ?_); refine zza ?_; refine AOps.nil (ARun.seq (ARun.region ?_))
  refine zzc rfl rfl (ZeD) ?_
  refine zza ?_; refine AOps.nil (ARun.seq (ARun.region ?_)); refine zzm ?_
  refine zzc rfl rfl (c1) ?_
  refine zzm ?_; refine zze ?_; refine zze ?_; refine zze ?_; refine zza ?_; refine zza ?_; refine zza ?_; refine AOps.nil (ARun.seq (ARun.seq (ARun.region ?_))); refine zzm ?_; refine zzi ?_; refine AOps.nil ?_
  refine ARun.condF rfl ?_
  refine ARun.skip (ARun.seq (ARun.region ?_)); refine zzm ?_
  refine zzc rfl rfl (c2) ?_
  refine zzm ?_; refine zze ?_; refine zze ?_; refine zza ?_; refine zza ?_; refine AOps.nil (ARun.seq (ARun.region ?_)); refine zzm ?_
  refine zzc rfl rfl (c3) ?_
  refine zzm ?_; refine zze ?_; refine zze ?_; refine zza ?_; refine zza ?_; refine AOps.nil (ARun.seq (ARun.seq (ARun.region ?_))); refine zzm ?_; refine zzi ?_; refine zzm ?_; refine zzm ?_; refine zzi ?_; refine zzm ?_; refine zzm ?_; refine zzi ?_; refine zzp ?_; refine zzp ?_; refine AOps.nil ?_
  refine ARun.condF rfl ?_
  refine ARun.skip (ARun.seq (ARun.seq (ARun.region ?_))); refine zzm ?_; refine zzi ?_; refine AOps.nil ?_
  refine ARun.condT rfl ?_
  refine ARun.seq (ARun.region ?_); refine zzm ?_; refine zza ?_; refine AOps.nil ?_
  refine ARun.ret ?_
  refine ⟨_, _, _, .tmp rfl .nil, .cons (.same _) .nil, rfl, ?_⟩
  rfl
theorem ScanAgain_ok (s : ByteArray) {l : List Pc} {o : Int} (hp : parseF s = (l, 0, o)) (h2 : (sPrint l).2 = 0) : PC Cg ZaK [.str s] (fun o => o = .ret (.bool true)) := by
  have c1 := Zbh s
  rw [hp] at c1
  simp only at c1
  obtain ⟨hg, hl, hc⟩ := parse_good hp
  have hf : ∀ p ∈ l, PcF p := fun p h => (hg p h).f
  have c2 := Zck l hf (by omega)
  have c3 := ZdR l hf (fun p h => Nat.le_trans (hg p h).2.2 (by decide)) (by omega)
  obtain ⟨l', h3, h4⟩ := print_back hc h2
  have c4 := Zbh (sPrint l).1
  rw [h3] at c4
  simp only at c4
  rw [h4] at c4
  have c5 := PC.g (ZfU l l hf hf (by omega))
  rw [ssame_rfl] at c5
  rw [hc] at c2
  rw [h2] at c3
  refine PC.rn ZaA Za3 Za4 (rs := [.tmp 2]) (by rw [Za5]) ?_
  refine ARun.seq (ARun.region ?_); refine zza ?_; refine AOps.nil (ARun.seq (ARun.region ?_))
  refine zzc rfl rfl (ZeD) ?_
  refine zza ?_; refine AOps.nil (ARun.seq (ARun.region ?_)); refine zzm ?_
  refine zzc rfl rfl (c1) ?_
  refine zzm ?_; refine zze ?_; refine zze ?_; refine zze ?_; refine zza ?_; refine zza ?_; refine zza ?_; refine AOps.nil (ARun.seq (ARun.seq (ARun.region ?_))); refine zzm ?_; refine zzi ?_; refine AOps.nil ?_
  refine ARun.condF rfl ?_
  refine ARun.skip (ARun.seq (ARun.region ?_)); refine zzm ?_
  refine zzc rfl rfl (c2) ?_
  refine zzm ?_; refine zze ?_; refine zze ?_; refine zza ?_; refine zza ?_; refine AOps.nil (ARun.seq (ARun.region ?_)); refine zzm ?_
  refine zzc rfl rfl (c3) ?_
  refine zzm ?_; refine zze ?_; refine zze ?_; refine zza ?_; refine zza ?_; refine AOps.nil (ARun.seq (ARun.seq (ARun.region ?_))); refine zzm ?_; refine zzi ?_; refine zzm ?_; refine zzm ?_; refine zzi ?_; refine zzm ?_; refine zzk ?_; refine zzk ?_; refine zzp ?_; refine zzp ?_; refine AOps.nil ?_
  refine ARun.condF rfl ?_
  refine ARun.skip (ARun.seq (ARun.seq (ARun.region ?_))); refine zzm ?_; refine zzi ?_; refine AOps.nil ?_
  refine ARun.condF rfl ?_
  refine ARun.skip (ARun.seq (ARun.region ?_)); refine zzm ?_
  refine zzc rfl rfl (c4) ?_
  refine zzm ?_; refine zze ?_; refine zze ?_; refine zze ?_; refine zza ?_; refine zza ?_; refine zza ?_; refine AOps.nil (ARun.seq (ARun.region ?_)); refine zzm ?_
  refine zzc rfl rfl (c3) ?_
  refine zzm ?_; refine zze ?_; refine zze ?_; refine zza ?_; refine zza ?_; refine AOps.nil (ARun.seq (ARun.region ?_)); refine zzm ?_; refine zzm ?_; refine zzm ?_; refine zzi ?_; refine zzp ?_; refine zzm ?_; refine zzm ?_; refine zzi ?_; refine zzp ?_; refine zzm ?_; refine zzm ?_; refine zzm ?_
  refine zzc rfl rfl (c5) ?_
  refine zzp ?_; refine zzm ?_; refine zzm ?_; refine zzm ?_
  refine y_op rfl (OpQ.cast (d' := .bool true) (Zeh rfl rfl) (congrArg D.bool (by rw [str_eq]; exact decide_eq_true rfl))) ?_
  refine zzp ?_; refine zza ?_; refine AOps.nil ?_
  refine ARun.ret ?_
  refine ⟨_, _, _, .tmp rfl .nil, .cons (.same _) .nil, rfl, ?_⟩
  rfl
theorem ZeO (s : ByteArray) : PC Cg ZaK [.str s] (fun o => o = .ret (.bool true)) := by
  rcases hp : parseF s with ⟨l, e, o⟩
  by_cases he : e = 0
  · subst he
    by_cases h2 : (sPrint l).2 = 0
    · exact ScanAgain_ok s hp h2
    exact ScanAgain_lim s hp (sPrint_lim (parse_good hp).2.2 h2)
  have hl := parse_bad hp he
  subst hl
  exact ScanAgain_bad s hp he
end Go.V
/- THE ROWS: what the arguments read as, and what is left behind a call. -/
set_option maxRecDepth 100000
namespace Go.V
open Go.RowKit Go.Proofs Go.ChangeShapes Go.WideShapes Go.ChangeAt Go.ChangeMaps Go.Proofs.YthankfodgdfgaaaDoor
theorem laidOutZ : laidOutB Tryd.prog = true := by kernel_rfl
theorem ownZ : ownKnob Tryd.prog.godebug = none := by kernel_rfl
theorem forb0 : forb (fun _ => False) [] [] = fun _ => False := by
  funext b
  apply propext
  constructor
  · rintro (h | ⟨i, o, h, _⟩)
    · exact h
    simp at h
  exact fun h => h.elim
section
variable {H : Type} {enc : TypeId × Value → H} {W : World}
theorem vr_string {base : Nat} {v : Value} {d : DataW H} {p : List MemPlace} (hv : Value.okWide Tryd.prog W .any base 9 v) (h : DataW.Trod enc Tryd.prog W 0 (fun _ => true) true 9 v d p) :
    ∃ s : ByteArray, s.size ≤ maxLen ∧ VR W (fun _ => False) [] [] (.str s) v := by
  obtain ⟨s, rfl, _, _, hs⟩ := open_string Tryd.underlying9 hv h
  exact ⟨s, hs, by simp only [VR]⟩
theorem trodAll_stays {W' : World} (hb : Below W.heap.size W W') {sp : Nat → Bool} : ∀ {ts : List TypeId} {vs : List Value} {ds : List (DataW H)} {p : List MemPlace}, (∀ t ∈ ts, Tryd.prog.readableRec t = true ∧ t < Tryd.prog.types.size) →
    DataW.TrodAll enc Tryd.prog W 0 (fun _ => true) true ts vs ds p → (∀ x ∈ p, x.block < W.heap.size ∧ sp x.block = true) → DataW.TrodAll enc Tryd.prog W' 0 sp true ts vs ds p
  | [], _, _, _, _, h, _ => by
    obtain ⟨rfl, rfl, rfl⟩ := trodAll_nil h
    simp [DataW.TrodAll]
  | t :: ts, _, _, _, ht, h, hp => by
    obtain ⟨v, vs, d, ds, a, b, rfl, rfl, rfl, h1, h2⟩ := trodAll_cons h
    obtain ⟨r1, r2⟩ := ht t (List.mem_cons_self ..)
    exact ⟨a, b, WideElems.Trod_stays laidOutZ r1 r2 h1 (fun x hx => hb.same (hp x (List.mem_append_left _ hx)).1) (fun x hx => (hp x (List.mem_append_left _ hx)).2),
      trodAll_stays hb (fun t ht' => ht t (List.mem_cons_of_mem _ ht')) h2 (fun x hx => hp x (List.mem_append_right _ hx)), rfl⟩
theorem law_post {fn : Func} {s : ChangeSpec} {W' : World} {args : Array Value} {ds : List (DataW H)} {before : List MemPlace} (hs : s.vars = []) (hW : DataW.Whole enc Tryd.prog fn.params.toList s.vars false W args.toList ds [] before) (hf : s.fn H ds = { results := [.lit (.bool true)], args := ds })
    (hr : fn.resultTypes = #[4]) (hts : ∀ t ∈ fn.params.toList, Tryd.prog.readableRec t = true ∧ t < Tryd.prog.types.size) (hb : Below W.heap.size W W') : s.post enc Tryd.prog fn false true false false W args (.bool true) W' := by
  have hW' := hW
  obtain ⟨p, q, hA, hV, rfl, _, _⟩ := hW
  rw [hs] at hV
  obtain ⟨_, rfl⟩ := trodVars_none hV
  have hlt : ∀ x ∈ p, x.block < W.heap.size := fun x hx => by simpa using hW'.lt x (List.mem_append_left _ hx)
  refine ⟨ds, [], p ++ [], [], p, [], hW', ?_, ?_, ?_, hb.frame _, fun h => by cases h⟩
  · rw [List.append_nil, hf, hr]
    exact trodAll_mk1 (shut_bool Tryd.underlying4 _)
  · rw [List.append_nil, hf]
    exact trodAll_stays hb hts hA fun x hx => ⟨hlt x hx, by simpa using hlt x hx⟩
  rw [List.append_nil, hf, hs]
  rfl
end
/-! THE TABLES, AS THEY LIE. -/
inductive F2 {A B : Type} (R : A → B → Prop) : List A → List B → Prop where
  | nil : F2 R [] []
  | cons {a : A} {b : B} {xs : List A} {ys : List B} : R a b → F2 R xs ys → F2 R (a :: xs) (b :: ys)
theorem F2.pull {A B : Type} {R : A → B → Prop} {ys zs : List B} (h : ys.Perm zs) : ∀ {xs : List A}, F2 R xs ys → ∃ l : List A, l.Perm xs ∧ F2 R l zs := by
  induction h with
  | nil => intro xs h; exact ⟨xs, .refl _, h⟩
  | cons b _ ih =>
    intro xs h
    cases h with
    | cons h1 h2 =>
      obtain ⟨l, p, q⟩ := ih h2
      exact ⟨_ :: l, p.cons _, .cons h1 q⟩
  | swap a b l =>
    intro xs h
    cases h with
    | cons h1 h2 =>
      cases h2 with
      | cons h3 h4 => exact ⟨_, .swap .., .cons h3 (.cons h1 h4)⟩
  | trans _ _ ih1 ih2 =>
    intro xs h
    obtain ⟨l, p, q⟩ := ih1 h
    obtain ⟨l2, p2, q2⟩ := ih2 q
    exact ⟨l2, p2.trans p, q2⟩
theorem F2.of_mapM {A B : Type} {f : A → Option B} : ∀ {xs : List A} {ys : List B}, xs.mapM f = some ys → F2 (fun a b => f a = some b) xs ys
  | [], ys, h => by
    simp at h; subst h; exact .nil
  | a :: xs, ys, h => by
    rw [List.mapM_cons] at h
    simp only [bind, Option.bind_eq_some_iff, pure, Option.some.injEq] at h
    obtain ⟨b, h1, bs', h2, rfl⟩ := h
    exact .cons h1 (F2.of_mapM h2)
theorem F2.map {A B E : Type} {R : A → B → Prop} {Q : A → E → Prop} {g : B → E} (h : ∀ a b, R a b → Q a (g b)) : ∀ {xs : List A} {ys : List B}, F2 R xs ys → F2 Q xs (ys.map g)
  | _, _, .nil => .nil
  | _, _, .cons h1 h2 => .cons (h _ _ h1) (F2.map h h2)
theorem int_cells {e : TypeId} {ke : IntKind} {v : Value} {c : Int} (he : Tryd.prog.underlying e = some (.int ke)) (hf : v.formed Tryd.prog e = true) (h : v.cells.toList = [.int ke c]) : v = .int ke c := by
  cases v with
  | agg cs => simp [Value.formed, he] at hf
  | _ => simpa [Value.cells] using h
def rowR (H : Type) (kk ke : IntKind) (x : MapEntry) (y : Lit × DataW H) : Prop := ∃ a c : Int, x.key = .int kk a ∧ y.1 = .int kk a ∧ x.val = .int ke c ∧ y.2 = .lit (.int ke c)
theorem row_entries {H : Type} {enc : TypeId × Value → H} {w : World} {base : Nat} {sp : Nat → Bool} {held : Bool} {fuel : Nat} {k e : TypeId} {t : TypeId} {kk ke : IntKind} {cs : List Value} {dd : List (Lit × DataW H)} {p : List MemPlace}
    (ht : Tryd.prog.underlying t = some (.map k e)) (hk : Tryd.prog.underlying k = some (.int kk)) (he : Tryd.prog.underlying e = some (.int ke))
    (h : DataW.trod enc Tryd.prog w base sp held fuel t cs = some (.map dd, p)) :
    ∃ (b : Nat) (es : Array MapEntry) (clock : Nat), cs = [.map (some b)] ∧ w.heap[b]? = some (.map es clock) ∧ ∃ l : List MapEntry, l.Perm es.toList ∧ F2 (rowR H kk ke) l dd := by
  cases fuel with
  | zero => simp [DataW.trod] at h
  | succ n =>
    unfold DataW.trod at h
    simp only [ht] at h
    split at h
    all_goals first | (cases h; done) | (rename_i e1; cases e1; done) | skip
    all_goals try (simp at h; done)
    all_goals try (rename_i e1 _; cases e1; done)
    rename_i b hX
    injection hX with hX
    injection hX with a1 a2
    subst a1; subst a2
    split at h
    · rename_i es clock hb
      split at h
      · simp only [Option.bind_eq_some_iff] at h
        obtain ⟨entries, h1, h2⟩ := h
        split at h2
        · simp only [Option.some.injEq, Prod.mk.injEq, DataW.map.injEq] at h2
          obtain ⟨rfl, _⟩ := h2
          have f1 := F2.of_mapM h1
          have f2 : F2 (rowR H kk ke) es.toList (entries.map (·.1)) := f1.map fun x y hx => by
            simp only [Option.bind_eq_some_iff] at hx
            obtain ⟨key, g1, g2⟩ := hx
            split at g2
            · rename_i hf
              simp only [Option.map_eq_some_iff] at g2
              obtain ⟨z, g3, rfl⟩ := g2
              obtain ⟨a, e1, e2, _⟩ := Maps.keyOf_int_inv hk g1
              obtain ⟨c, e3, e4, _⟩ := DataW.trod_int he g3
              subst e4
              exact ⟨a, c, e1, e2, int_cells he hf e3, rfl⟩
            cases g2
          obtain ⟨l, hl, hf⟩ := F2.pull (sorted_perm _).symm f2
          exact ⟨b, es, clock, rfl, hb, l, hl, hf⟩
        cases h2
      cases h
    cases h
theorem rows_vr {W : World} {L : Nat → Prop} : ∀ {l : List MapEntry} {es : List (Nat × Nat)}, F2 (rowR Unit .u8 .i64) l (es.map fun e => (Lit.int .u8 (e.1 : Int), DataW.lit (.int .i64 (e.2 : Int)))) → VRs W L [] [] (es.map fun e => D.int .u8 (e.1 : Int)) (l.map (·.key)) ∧ VRs W L [] [] (es.map fun e => D.int .i64 (e.2 : Int)) (l.map (·.val))
  | [], [], _ => ⟨by simp only [List.map_nil, VRs], by simp only [List.map_nil, VRs]⟩
  | [], _ :: _, h => by cases h
  | _ :: _, [], h => by cases h
  | x :: l, e :: es, h => by
    cases h with
    | cons h1 h2 =>
      obtain ⟨a, c, g1, g2, g3, g4⟩ := h1
      injection g2 with _ g2
      injection g4 with g4
      injection g4 with _ g4
      subst g2; subst g4
      obtain ⟨r1, r2⟩ := rows_vr h2
      simp only [List.map_cons, VRs, VR]
      exact ⟨⟨_, _, rfl, g1, r1⟩, ⟨_, _, rfl, g3, r2⟩⟩
theorem table_GR {W : World} {n : String} {g : Nat} {cs : Array Value} {ds : List D} (hg : Tryd.prog.globalNamed n = some g) (hv : W.var? Tryd.prog n = some cs) (hne : ds ≠ []) (hd : valsD ds = some cs.toList) :
    g < W.heap.size ∧ GR W (fun _ => False) g ds := by
  have hcell : ∀ (j : Nat) (v : Value), cs.toList[j]? = some v → W.cell? ⟨g, 0 + j, none⟩ = some v := fun j v hj => by
    rw [Nat.zero_add, World.var?_cell hg hv j]
    simpa using hj
  have hlen : ∀ {ds : List D} {vs : List Value}, valsD ds = some vs → vs.length = ds.length := by
    intro ds
    induction ds with
    | nil => intro vs h; simp only [valsD] at h; injection h with h; subst h; rfl
    | cons d ds ih =>
      intro vs h
      simp only [valsD] at h
      split at h
      · rename_i h1 h2
        injection h with h; subst h
        rw [List.length_cons, List.length_cons, ih h2]
      cases h
  have hb : ∃ e fz, W.heap[g]? = some (.cells cs e fz) := by
    unfold World.var? at hv
    rw [hg, Option.bind_some] at hv
    split at hv
    · rename_i h; injection hv with hv; subst hv; exact ⟨_, _, h⟩
    cases hv
  obtain ⟨e, fz, hb⟩ := hb
  refine ⟨?_, VRL_vals hd hcell, cs, e, fz, hb, ?_⟩
  · apply Classical.byContradiction
    intro hn
    have : W.heap[g]? = none := by rw [Array.getElem?_eq_none_iff]; omega
    rw [this] at hb; cases hb
  have := hlen hd; simpa using this
def Laid3 (W : World) : Prop := ∀ (g : Nat) (cs : List D), (g, cs) ∈ Cg.gl → g < W.heap.size ∧ GR W (fun _ => False) g cs
theorem tables_laid {W : World} (h : laidMetH Tryd.prog Rows.scanSetsRow.laid W) : Laid3 W := by
  rw [MakeChecks.laidMetH_plain _ _ _ (by kernel_rfl)] at h
  obtain ⟨ps, ⟨g0, t0, cs0, f0, p0, q0, hg0, ht0, hv0, hd0, ⟨g1, t1, cs1, f1, p1, q1, hg1, ht1, hv1, hd1, ⟨g2, t2, cs2, f2, p2, q2, hg2, ht2, hv2, hd2, ⟨g3, t3, cs3, f3, p3, q3, hg3, ht3, hv3, hd3, ⟨g4, t4, cs4, f4, p4, q4, hg4, ht4, hv4, hd4, _, _⟩, _⟩, _⟩, _⟩, _⟩, _, _⟩ := h
  have e2 : Tryd.prog.globalNamed "internal/strconv.uint64pow10" = some 3 := by kernel_rfl
  have e3 : Tryd.prog.globalNamed "soroban/scanspec.rows" = some 0 := by kernel_rfl
  have e4 : Tryd.prog.globalNamed "soroban/scanspec.lengths" = some 1 := by kernel_rfl
  have y2 : (Tryd.prog.globals[3]?).map (·.type) = some 123 := by kernel_rfl
  have y3 : (Tryd.prog.globals[0]?).map (·.type) = some 95 := by kernel_rfl
  have y4 : (Tryd.prog.globals[1]?).map (·.type) = some 99 := by kernel_rfl
  obtain rfl := Option.some.inj (e2.symm.trans hg2)
  obtain rfl := Option.some.inj (e3.symm.trans hg3)
  obtain rfl := Option.some.inj (e4.symm.trans hg4)
  obtain rfl := Option.some.inj (y2.symm.trans ht2)
  obtain rfl := Option.some.inj (y3.symm.trans ht3)
  obtain rfl := Option.some.inj (y4.symm.trans ht4)
  have k2 := flat_ok 4 f2 123 cs2.toList _ (by kernel_rfl) hd2
  have k4 := flat_ok 4 f4 99 cs4.toList _ (by kernel_rfl) hd4
  have v2 : valsD powCells = flatV (Rows.laid_internal_strconv_uint64pow10 (H := Unit)) := by rfl
  have v4 : valsD lensA = flatV (Rows.laid_soroban_scanspec_lengths (H := Unit)) := by rfl
  have n2 : powCells ≠ [] := by intro h; cases h
  have n4 : lensA ≠ [] := by intro h; cases h
  have r2 := table_GR e2 hv2 n2 (v2.trans k2)
  have r4 := table_GR e4 hv4 n4 (v4.trans k4)
  obtain ⟨b, es, clock, c1, c2, l, c3, c4⟩ := row_entries (kk := .u8) (ke := .i64) Tryd.underlying95 Tryd.underlying5 Tryd.underlying3 hd3
  obtain ⟨m1, m2⟩ := rows_vr (W := W) (L := fun _ => False) (es := rowEs) c4
  have hb : ∃ e fz, W.heap[0]? = some (.cells cs3 e fz) := by
    unfold World.var? at hv3
    rw [e3, Option.bind_some] at hv3
    split at hv3
    · rename_i h; injection hv3 with hv3; subst hv3; exact ⟨_, _, h⟩
    cases hv3
  obtain ⟨e, fz, hb⟩ := hb
  have lt : ∀ {i : Nat} {o : Obj}, W.heap[i]? = some o → i < W.heap.size := fun {i o} hi => by
    apply Classical.byContradiction
    intro hn
    have : W.heap[i]? = none := by rw [Array.getElem?_eq_none_iff]; omega
    rw [this] at hi; cases hi
  have hc0 : W.cell? ⟨0, 0, none⟩ = some (.map (some b)) := by
    rw [World.var?_cell e3 hv3 0, ← Array.getElem?_toList, c1]; rfl
  intro g cs hg
  have hg : (g, cs) ∈ [(0, [D.mapv rowKs rowVs]), (1, lensA), (3, powCells)] := hg
  simp only [List.mem_cons, List.not_mem_nil, or_false, Prod.mk.injEq] at hg
  rcases hg with ⟨rfl, rfl⟩ | ⟨rfl, rfl⟩ | ⟨rfl, rfl⟩
  · refine ⟨lt hb, ?_, cs3, e, fz, hb, by have := congrArg List.length c1; simpa using this⟩
    simp only [VRL]
    refine ⟨⟨.map (some b), hc0, rfl, ?_⟩, trivial⟩
    simp only [VR]
    exact ⟨b, es, clock, rfl, lt c2, fun h => h, c2, l, c3, m1, m2⟩
  · exact r4
  exact r2
theorem SRg {W : World} (h : Laid3 W) : SR Cg (fun _ => False) W [] [] :=
  ⟨rfl, fun i o b h => by simp at h, fun i j oi oj b h => by simp at h, fun i o b h => by simp at h, fun b h => h.elim, fun g cs hg => by
    rw [forb0]
    exact ⟨(h g cs hg).1, fun h => h, (h g cs hg).2⟩⟩
theorem law_callsG {f : FuncId} {ds : List D} {W : World} {vs : List Value} (hl : Laid3 W) (hc : PC Cg f ds (fun o => o = .ret (.bool true))) (hv : VRs W (fun _ => False) [] [] ds vs) : Calls Tryd.prog f vs.toArray W fun e W' => e = .returned (.bool true) ∧ Below W.heap.size W W' := by
  have h := (hc []).2 (fun _ => False) W [] vs (SRg hl) (by rw [forb0]; exact hv)
  refine h.mono ?_
  rintro e W' ⟨o, H', μ', ⟨rfl, rfl⟩, _, ⟨v, he, hv'⟩, hevo⟩
  simp only [VR] at hv'
  subst hv'
  exact ⟨he, hevo.os, hevo.tape, hevo.output, hevo.size, fun k hk => hevo.chg k hk fun ⟨i, o, h, _⟩ => by simp at h⟩
end Go.V
/- THE ROWS OF SCAN SPECIFICATIONS: what a set and what a list of pieces read as. -/
set_option maxRecDepth 100000
namespace Go.V
open Go.RowKit Go.Proofs Go.ChangeShapes Go.WideShapes Go.ChangeAt Go.ChangeMaps Go.Proofs.YthankfodgdfgaaaDoor
section
variable {H : Type} {enc : TypeId × Value → H} {W : World}
end
end Go.V
/- A START THAT MEETS WHAT THE ROWS SAY OF THE TABLES: the map of rows laid by hand, the other tables by the kit's law. -/
set_option maxRecDepth 100000
namespace Go.V
open Go.RowKit Go.Proofs Go.ChangeShapes Go.WideShapes Go.ChangeAt Go.ChangeMaps Go.Proofs.YthankfodgdfgaaaDoor
def rowMap : Obj := .map (rowEs.zipIdx.map fun x => (⟨.int .u8 (x.1.1 : Int), .int .i64 (x.1.2 : Int), x.2⟩ : MapEntry)).toArray 20
def setRow (b : Nat) : Obj → Obj
  | .cells _ t frozen => .cells #[.map (some b)] t frozen
  | o => o
noncomputable def mapN (os : Os) : Nat := (World.settled Tryd.prog os).heap.size
noncomputable def mapW0 (os : Os) : World :=
  let w := World.holding Tryd.prog os ⟨#[rowMap], #[], []⟩
  { w with heap := w.heap.modify 0 (setRow (mapN os)) }
def great4 : List String := ["math/bits.deBruijn32tab", "math/bits.deBruijn64tab", "internal/strconv.uint64pow10", "soroban/scanspec.lengths"]
def laid5 : List (String × DataW Unit) := Rows.scanSetsRow.laid
noncomputable def mapW (os : Os) : World := (mapW0 os).layVars Tryd.prog (laid5.filter fun x => great4.contains x.1)
theorem mapW_os (os : Os) : (mapW os).os = os := by unfold mapW; rw [World.layVars_os]; rfl
theorem mapW_shaped (os : Os) : (mapW os).Shaped Tryd.prog := World.shaped_of_ZipB (by kernel_rfl) (by kernel_rfl)
theorem mapW_in (os : Os) : LaidIn Tryd.prog (mapW os) (laid5.filter fun x => !great4.contains x.1) [0, mapN os] :=
  LaidIn.of_run [0, mapN os] 8 (by kernel_rfl) (by kernel_rfl) (by kernel_rfl) (by kernel_rfl)
theorem mapW_laid (os : Os) : laidMet Tryd.prog laid5 (mapW os) :=
  laidMet_layVars (w0 := mapW0 os) great4 [0, mapN os] rfl (by kernel_rfl) (by kernel_rfl) (mapW_in os)
theorem mapW_met (os : Os) (args : Array Value) : laidMetH Tryd.prog Rows.scanSetsRow.laid ((mapW os).forCall (fun _ _ => 0) ⟨#[], args, []⟩).memory := by
  rw [MakeChecks.laidMetH_plain _ _ _ (by kernel_rfl)]
  exact (mapW_laid os).of_heap (by simp [World.memory, World.forCall, Input.heap])
end Go.V
/- The closed facts of a row, one by one: what holds of the program itself, and how they are joined; no condition. -/
set_option maxRecDepth 100000
namespace Go.V
open Go.Proofs
theorem and_t {a b : Bool} (h1 : a = true) (h2 : b = true) : (a && b) = true := by rw [h1, h2]; rfl
theorem joined_of {P : Program} {f : FuncId} {fn : Func} {s : ChangeSpec} {c : OpenClaim}
    (k1 : (c.wf (OpenSpec.ofChange s)) = true)
    (k2 : (laidOutB P) = true)
    (k3 : (mapsRowed P) = true)
    (k4 : (fn.params.all (P.readableRec ·)) = true)
    (k5 : (namedTie P c.named s.vars) = true)
    (k6 : (c.stops == []) = true)
    (k7 : (P.stops == []) = true)
    (k8 : (c.knobs == []) = true)
    (k9 : (P.stopKnobs == []) = true)
    (k10 : (c.inPlace == P.inPlace f) = true)
    (k11 : (c.unfollowed == P.unfollowed f) = true)
    (k12 : (c.recurses == P.recurses f) = true)
    (k13 : (c.named == P.varsNamed f) = true)
    (k14 : ((c.maps == (fn.params.toList ++ s.plain.varTypes P).any (P.mapsRec ·))) = true)
    (k15 : ((c.ifaces == (fn.params.toList ++ s.plain.varTypes P).any (P.ifacesRec ·))) = true)
    (k16 : (c.mapsOut == P.mapsAmong fn.resultTypes.toList) = true)
    (k17 : ((c.loops == (fn.params.toList ++ s.plain.varTypes P).any (P.loopsFrom ·))) = true)
    (k18 : ((c.wideKeys == (fn.params.toList ++ s.plain.varTypes P ++ fn.resultTypes.toList).any (P.wideKeysFrom ·))) = true)
    (k19 : (s.vars.all (P.varReadable ·)) = true)
    (k20 : (fn.resultTypes.all (fun t => P.readableRec t && decide (t < P.types.size))) = true)
    (k21 : ((c.ifacesOut == fn.resultTypes.toList.any (P.ifacesRec ·))) = true)
    (k22 : ((c.loopsOut == fn.resultTypes.toList.any (P.loopsFrom ·))) = true)
    (k23 : (c.plainKeys == P.plainKeys) = true)
    (k24 : (c.shortTexts.isNone) = true)
    (k25 : (P.stopsHeard) = true)
    (k26 : (P.mayEnter) = true)
    (k27 : (c.lifted == P.liftsFinal) = true)
    (k28 : (P.make == some c.make) = true)
    (k29 : ((c.kinds == (if c.domain.isEmpty then [] else fn.params.toList.map fun t => match P.underlying t with | some (.int k) => some k | _ => none))) = true)
    (k30 : (c.pinned == c.pinnedBy) = true)
    (k31 : ((c.veiled == (fn.params.toList ++ s.plain.varTypes P ++ fn.resultTypes.toList).any (P.veiledRec ·))) = true)
    (k32 : (c.veiledFits P fn.params.toList (fn.params.toList ++ s.plain.varTypes P ++ fn.resultTypes.toList)) = true)
    : joinedFacts P f fn s c = true := by
  unfold joinedFacts
  exact and_t (and_t (and_t (and_t (and_t (and_t (and_t (and_t (and_t (and_t (and_t (and_t (and_t (and_t (and_t (and_t (and_t (and_t (and_t (and_t (and_t (and_t (and_t (and_t (and_t (and_t (and_t (and_t (and_t (and_t (and_t k1 k2) k3) k4) k5) k6) k7) k8) k9) k10) k11) k12) k13) k14) k15) k16) k17) k18) k19) k20) k21) k22) k23) k24) k25) k26) k27) k28) k29) k30) k31) k32
theorem z_maps : mapsRowed Tryd.prog = true := by kernel_rfl
theorem z_plainKeys : (Go.Proofs.YthankfodgdfgaaaDoor.Rows.scanSetsRow.plainKeys == Tryd.prog.plainKeys) = true := by kernel_rfl
theorem z_stopsHeard : Tryd.prog.stopsHeard = true := by kernel_rfl
theorem z_lifts : (Go.Proofs.YthankfodgdfgaaaDoor.Rows.scanSetsRow.lifted == Tryd.prog.liftsFinal) = true := by kernel_rfl
theorem z_make : (Tryd.prog.make == some Go.Proofs.YthankfodgdfgaaaDoor.Rows.scanSetsRow.make) = true := by kernel_rfl
theorem z_main : YthankfodgdfgaaaDoor.Tryd.pinned.checked.prog.mainIs = some (true, "4a358535a3fdcf16b8f6994064c82af79c63477f10344ea5494afcbe3a711897".toList) := by kernel_rfl
theorem z_looks : true = Tryd.prog.looks [] := by kernel_rfl
theorem z_enter : Tryd.prog.mayEnter = true := by kernel_rfl
end Go.V
