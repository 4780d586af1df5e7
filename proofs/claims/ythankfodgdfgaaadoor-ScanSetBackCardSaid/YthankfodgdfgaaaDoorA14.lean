/- A part of the proof: abstract values, rules for the steps of the program's form, and contracts of its functions, each proved; no condition. -/
import Derived.Test.YthankfodgdfgaaaDoorA13
import Derived.Laws.IdiomArrays
import Derived.Deep.Slices
import Derived.Maps.RangeWalk
import Derived.Test.YthankfodgdfgaaaDoorTie
import Derived.Test.YthankfodgdfgaaaDoorCards
import Derived.ProofKit
import Derived.OpenShut
import Derived.LaidMore
import Derived.Lay
import Derived.SevenTiedAt
import Derived.Carry
import Derived.Stop.Joined
set_option linter.unusedVariables false
set_option linter.unusedSimpArgs false
set_option linter.unnecessarySimpa false
set_option maxHeartbeats 8000000
set_option maxRecDepth 100000
set_option synthInstance.maxSize 100000
set_option synthInstance.maxHeartbeats 2000000
namespace Go.V
open Go.RowKit Go.Proofs
abbrev errO (e : Int) : Option AObj := some ⟨[.int .i64 e], ZgW, 1, true, none⟩
abbrev intO (n : Int) : Option AObj := some ⟨[.int .i64 n], t_int, 1, true, none⟩
theorem dct_ret (H : Heap) (i j : Nat) : DC Cg Zbk H [.ptr i 0, .ptr j 0] .returning (fun m' H' => m' = .returning ∧ H' = H) := by
  refine DC.of_run1 Zbc ZbO rfl ZbP (by rw [ZbQ]) (fun _ h => by cases h) (by simp only [List.length_cons, List.length_nil, Nat.reduceAdd, Nat.reduceSub, List.replicate_succ, List.replicate_zero, List.cons_append, List.nil_append, recD, envPut, List.set_cons_succ, List.set_cons_zero]; exact rfl) ?_
  refine ARun.block (ARun.seq (ARun.region ?_))
  refine y_op rfl (ZhV (by kernel_rfl) rfl) ?_
  refine AOps.nil ?_
  refine ARun.condT rfl ?_
  refine ARun.region ?_; refine zza ?_; refine AOps.nil (ARun.inBlock ?_)
  refine ARun.nil ?_
  exact ⟨rfl, rfl, rfl⟩
theorem dct_wrong (H : Heap) (i j : Nat) (e0 n0 e : Int) (n : Nat) (h : H[i]? = some (errO e0)) (h2 : H[j]? = some (intO n0)) (hij : i ≠ j) : DC Cg Zbk H [.ptr i 0, .ptr j 0] (.panicking (wrongP e n)) (fun m' H' => m' = .recovered (wrongP e n) ∧ H' = ((H.set i (errO e)).set j (intO (n : Int)) : Heap)) := by
  have h3 : (H.set i (errO e))[j]? = some (intO n0) := by rw [List.getElem?_set_ne hij]; exact h2
  refine DC.of_run1 Zbc ZbO rfl ZbP (by rw [ZbQ]) (fun _ h => by cases h) (by simp only [List.length_cons, List.length_nil, Nat.reduceAdd, Nat.reduceSub, List.replicate_succ, List.replicate_zero, List.cons_append, List.nil_append, recD, envPut, List.set_cons_succ, List.set_cons_zero]; exact rfl) ?_
  refine ARun.block (ARun.seq (ARun.region ?_))
  refine y_op rfl (q_ifEq (by kernel_rfl) rfl) ?_
  refine AOps.nil ?_
  refine ARun.condF rfl ?_
  refine ARun.seq (ARun.region ?_)
  refine y_op rfl (Zhv rfl rfl rfl) ?_
  refine zze ?_; refine zze ?_; refine AOps.nil ?_
  refine ARun.condT rfl ?_
  refine ARun.seq (ARun.region ?_)
  refine Zbb rfl rfl rfl rfl rfl rfl rfl rfl rfl rfl rfl ?_
  refine AOps.nil ?_
  refine ARun.drawnG (n := 8) (fun S : Nat → Bool => bif S 7 then H.set i (errO e) else H) [] (fun _ => False) (sk := []) mixC rfl rfl (by kernel_rfl) rfl (by kernel_rfl) rfl (fun _ _ _ h => h.elim) ?_
  refine DChG.op rfl (fun _ => q_move rfl) (fun _ => rfl) rfl rfl ?_
  refine DChG.op rfl (fun _ => q_move rfl) (fun _ => rfl) rfl rfl ?_
  first
    | refine DChG.op rfl (fun _ => q_fldP rfl rfl rfl (by decide)) (fun _ => rfl) rfl rfl ?_
    | refine DChG.op rfl (fun _ => q_fldS rfl rfl rfl (by decide)) (fun _ => rfl) rfl rfl ?_
  first
    | refine DChG.opC rfl (fun S hn hd hc => OpQ.pre (H1 := bif false then H.set i (errO e) else H) (by simp only [(clF hc hn (by kernel_rfl) : S 7 = false)]) (Zaa rfl rfl rfl rfl rfl)) (fun _ => rfl) rfl rfl ?_
    | refine DChG.opC rfl (fun S hn hd hc => OpQ.pre (H1 := bif false then H.set i (errO e) else H) (by simp only [(clF hc hn (by kernel_rfl) : S 7 = false)]) (q_load rfl rfl rfl rfl)) (fun _ => rfl) rfl rfl ?_
    | refine DChG.opC rfl (fun S hn hd hc => OpQ.pre (H1 := bif false then H.set i (errO e) else H) (by simp only [(clF hc hn (by kernel_rfl) : S 7 = false)]) (q_load rfl rfl rfl (lim_load (by omega)))) (fun _ => rfl) rfl rfl ?_
    | refine DChG.opC rfl (fun S hn hd hc => OpQ.pre (H1 := bif false then H.set i (errO e) else H) (by simp only [(clF hc hn (by kernel_rfl) : S 7 = false)]) (q_load rfl rfl rfl (nts_load (by omega)))) (fun _ => rfl) rfl rfl ?_
    | refine DChG.opC rfl (fun S hn hd hc => OpQ.pre (H1 := bif false then H.set i (errO e) else H) (by simp only [(clF hc hn (by kernel_rfl) : S 7 = false)]) (Zaa rfl rfl rfl rfl (nts_get (by omega)))) (fun _ => rfl) rfl rfl ?_
    | refine DChG.opC rfl (fun S hn hd hc => OpQ.pre (H1 := bif false then H.set i (errO e) else H) (by simp only [(clF hc hn (by kernel_rfl) : S 7 = false)]) (Zaa rfl rfl rfl rfl (win_get (by assumption) (by omega)))) (fun _ => rfl) rfl rfl ?_
  first
    | refine DChG.op rfl (fun _ => q_fldP rfl rfl rfl (by decide)) (fun _ => rfl) rfl rfl ?_
    | refine DChG.op rfl (fun _ => q_fldS rfl rfl rfl (by decide)) (fun _ => rfl) rfl rfl ?_
  first
    | refine DChG.op rfl (fun _ => Zaa rfl rfl rfl rfl rfl) (fun _ => rfl) rfl rfl ?_
    | refine DChG.op rfl (fun _ => q_load rfl rfl rfl rfl) (fun _ => rfl) rfl rfl ?_
    | refine DChG.op rfl (fun _ => q_load rfl rfl rfl (lim_load (by omega))) (fun _ => rfl) rfl rfl ?_
    | refine DChG.op rfl (fun _ => q_load rfl rfl rfl (nts_load (by omega))) (fun _ => rfl) rfl rfl ?_
    | refine DChG.op rfl (fun _ => Zaa rfl rfl rfl rfl (nts_get (by omega))) (fun _ => rfl) rfl rfl ?_
    | refine DChG.op rfl (fun _ => Zaa rfl rfl rfl rfl (win_get (by assumption) (by omega))) (fun _ => rfl) rfl rfl ?_
  refine DChG.op rfl (fun _ => q_nil rfl rfl) (fun _ => rfl) rfl rfl ?_
  refine DChG.stC rfl (fun S hn hd hc => OpN.both (H1 := bif false then H.set i (errO e) else H) (H3 := bif true then H.set i (errO e) else H) (by simp only [hn]) rfl (Zad rfl rfl rfl rfl h rfl (Nat.le_of_ble_eq_true rfl) rfl)) rfl rfl ?_
  refine .nil (fun hG => AOps.fin (n := List.length (H.set i (errO e))) (as' := []) (H' := H.set i (errO e)) rfl rfl (List.append_nil _) ?_)
  refine y_op rfl (q_nil rfl rfl) ?_
  refine y_new rfl (Zad rfl rfl rfl rfl h3 rfl (Nat.le_of_ble_eq_true rfl) rfl) ?_
  refine AOps.nil (ARun.inBlock ?_)
  refine ARun.nil ?_
  exact ⟨rfl, rfl, rfl⟩
def OutS (H : Heap) (d : D) (out : List Pc) : Prop := (out = [] ∧ d = .nilsl) ∨ (out ≠ [] ∧ ∃ id, 3 ≤ id ∧ d = .row id out.length ∧ H[id]? = some (some ⟨pcs out, Zae, 9, true, none⟩))
def OutD (H : Heap) (d : D) (out : List Pc) : Prop := (out = [] ∧ d = .nilsl) ∨ (∃ id o, d = .row id out.length ∧ H[id]? = some (some o) ∧ o.cells = pcs out)
theorem pures_pcs : ∀ l : List Pc, D.pure.pures (pcs l) = true
  | [] => rfl
  | p :: l => by
    show D.pure.pures (p.cells ++ pcs l) = true
    exact pures_pcs l
theorem pcs_snoc (l : List Pc) (p : Pc) : pcs l ++ p.cells = pcs (l ++ [p]) := by
  unfold pcs
  rw [List.flatMap_append]; simp
theorem OutS.d {H : Heap} {d : D} {out : List Pc} (h : OutS H d out) : OutD H d out := h.imp id fun ⟨_, id, _, h2, h3⟩ => ⟨id, _, h2, h3, rfl⟩
theorem OutD.fz {H : Heap} {d : D} {out : List Pc} (h : OutD H d out) : ∃ ids, Fz H d (slP out) ids := by
  rcases h with ⟨rfl, rfl⟩ | ⟨id, o, rfl, h1, h2⟩
  · exact ⟨[], .nil⟩
  exact ⟨[id], by have := Fz.row (n := out.length) h1 (by rw [h2]; exact pures_pcs out); rw [h2] at this; exact this⟩
section
variable {env : List D} {H : Heap} {dst : Option Tmp} {x y : Operand} {ty : TypeId} {pos : String} {aft : Array Edge} {gd : Option (Nat × Bool)} {d : D} {out : List Pc} {p : Pc}
variable {Q : Post} {k : List Item} {df : List ADef} {ops : Array Oper} {rest : List Oper}
theorem Ziy (hx : evO Cg env x = some d) (ho : OutS H d out) : OpQ Cg ⟨dst, .call ⟨.builtin .len, #[x], #[Zaz]⟩, ty, pos, aft, gd⟩ env H (.int .i64 (out.length : Int)) := by
  rcases ho with ⟨rfl, rfl⟩ | ⟨_, id, _, rfl, h⟩
  · exact ZfU hx rfl
  exact ZfV hx h rfl
theorem Ziz {E : D → List D} [hput : ∀ d, Put env dst d (E d)] (hg : gOk ops.toList env gd = some true) (hx : evO Cg env x = some d) (ho : OutS H d out) (hy : evO Cg env y = some (.sl 1 p.cells)) (hl : out.length ≤ 1000) (h3 : 3 ≤ H.length)
    (hk : ∀ d' H', OutS H' d' (out ++ [p]) → (∀ j, j < 3 → H'[j]? = H[j]?) → H.length ≤ H'.length → AOps Cg Q ops rest k (E d') H' df) : AOps Cg Q ops (⟨dst, .call ⟨.builtin .append, #[x, y], #[Zaz, Zaz]⟩, ty, pos, aft, gd⟩ :: rest) k env H df := by
  obtain ⟨cs, hcs⟩ : ∃ cs, cs = p.cells := ⟨_, rfl⟩
  have h9 : cs.length = 9 := by rw [hcs]; rfl
  have hsn := pcs_snoc out p
  rw [← hcs] at hy hsn
  obtain ⟨P1, hP1⟩ : ∃ P1, P1 = pcs (out ++ [p]) := ⟨_, rfl⟩
  rw [← hP1] at hsn
  have key : OpH Cg ⟨dst, .call ⟨.builtin .append, #[x, y], #[Zaz, Zaz]⟩, ty, pos, aft, gd⟩ env H (fun d' H' => ((∃ id, 3 ≤ id ∧ d' = .row id (out.length + 1) ∧ H'[id]? = some (some (AObj.mk P1 Zae 9 true none)))) ∧ (∀ j, j < 3 → H'[j]? = H[j]?) ∧ H.length ≤ H'.length) (fun _ _ => False) := by
    rcases ho with ⟨rfl, rfl⟩ | ⟨hne, id, hid, rfl, h⟩
    · have hP : cs = P1 := hsn
      clear hP1
      subst hP
      refine OpH.mono ?_ (fun _ _ h => h) (Zde (C := Cg) (m := 1) (news := cs) (e := Zae) rfl rfl (by decide) rfl rfl rfl hx hy rfl (by rw [h9]; rfl) (by decide) (by decide) (by rw [maxLen_eq]; decide))
      rintro d' H' ⟨rfl, rfl⟩
      have hg2 : (H ++ [some (AObj.mk cs Zae 9 true none)])[H.length]? = some (some (AObj.mk cs Zae 9 true none)) := get_last rfl
      exact ⟨⟨H.length, h3, rfl, hg2⟩, fun j hj => List.getElem?_append_left (by omega), by simp⟩
    refine OpH.mono ?_ (fun _ _ h => h) (ZfX (C := Cg) (m := 1) (news := cs) (e := Zae) rfl rfl (by decide) rfl rfl rfl hx h rfl rfl rfl hy rfl (by rw [h9]; rfl) (by show (out.length + 1) * 80 ≤ 140737488355328; omega) (by rw [maxLen_eq]; omega) hsn)
    rintro d' H' ⟨rfl, rfl⟩
    have hg2 : (H.set id none ++ [some (AObj.mk P1 Zae 9 true none)])[(H.set id none).length]? = some (some (AObj.mk P1 Zae 9 true none)) := get_last rfl
    refine ⟨⟨(H.set id none).length, by rw [List.length_set]; exact h3, rfl, hg2⟩, fun j hj => ?_, by simp⟩
    rw [List.getElem?_append_left (by rw [List.length_set]; omega), List.getElem?_set_ne (by omega)]
  exact AOps.opH hg key (fun d' H' ⟨⟨id, a1, a2, a3⟩, h2, h3⟩ => by rw [(hput d').eq]; exact hk d' H' (.inr ⟨by simp, id, a1, by rw [a2, List.length_append]; rfl, by rw [a3, hP1]⟩) h2 h3) (fun _ _ h => h.elim)
theorem Zid {E : D → List D} {f : FuncId} [hput : ∀ d, Put env dst d (E d)] {tys : Array TypeId} {v : D} (hg : gOk ops.toList env gd = some true) (hf : evO Cg env y = some (.clos f [])) (hx : evO Cg env x = some d) (ho : OutS H d out) (hc : PC Cg f [slP out] (fun o => o = .ret v))
    (hk : ∀ H', OutD H' d out → (∀ j, j < 3 → H'[j]? = H[j]?) → AOps Cg Q ops rest k (E v) H' df) : AOps Cg Q ops (⟨dst, .call ⟨.value y, #[x], tys⟩, ty, pos, aft, gd⟩ :: rest) k env H df := by
  rcases ho with ⟨rfl, rfl⟩ | ⟨hne, id, hid, rfl, h⟩
  · refine Zhp (ids := []) (ds := [.nilsl]) hg hf (by simp only [evOs, hx]) (.cons .nil .nil) (hc _) ?_ (by rintro _ _ ⟨_, h⟩; cases h)
    rintro d' H' ⟨rfl, h1⟩
    injection h1 with h1
    subst h1
    exact hk _ (.inl ⟨rfl, rfl⟩) (fun _ _ => rfl)
  refine Zhp (ids := [id]) (ds := [.row id out.length]) hg hf (by simp only [evOs, hx]) (.cons (.row h (pures_pcs out)) .nil) (hc _) ?_ (by rintro _ _ ⟨_, h⟩; cases h)
  rintro d' H' ⟨rfl, h1⟩
  injection h1 with h1
  subst h1
  have hz : frz H [id] = H.set id (some ⟨pcs out, Zae, 9, false, none⟩) := by simp only [frz, h]
  rw [hz]
  exact hk _ (.inr ⟨id, _, rfl, heap_set_get h, rfl⟩) (fun j hj => List.getElem?_set_ne (by omega))
end
end Go.V
set_option maxHeartbeats 8000000
set_option maxRecDepth 100000
set_option synthInstance.maxSize 100000
set_option synthInstance.maxHeartbeats 2000000
namespace Go.V
open Go.RowKit Go.Proofs
theorem convE_ok {cnt n wid len c : Nat} {w pl mute pos : Bool} {S : Nat → Bool} {r : List Nat} {p : Pc} {q : List Nat} {c' : Nat} {w' pl' : Bool} (h : convE cnt w pl n mute pos wid len c S r = .ok p q c' w' pl') : q = r ∧ c' ≤ cnt + 1 ∧ p.arg ≤ 64 := by
  unfold convE at h
  cases h1 : (w || pos) && (pl || (!mute && decide (n = 0)))
  · rw [h1, cond_false] at h
    cases h2 : decide (10000 < wid) || decide (64 < (if (!mute && decide (n = 0)) = true then cnt + 1 else n))
    · rw [h2, cond_false] at h
      injection h with a b c d e
      rw [Bool.or_eq_false_iff, decide_eq_false_iff_not, decide_eq_false_iff_not] at h2
      refine ⟨b.symm, by rw [← c]; split <;> omega, ?_⟩
      rw [← a]
      show (((if (!mute && decide (n = 0)) = true then cnt + 1 else n) : Nat) : Int) ≤ 64
      omega
    rw [h2, cond_true] at h; cases h
  rw [h1, cond_true] at h; cases h
theorem convC_ok {cnt n wid len : Nat} {w pl mute pos : Bool} {r : List Nat} {p : Pc} {q : List Nat} {c' : Nat} {w' pl' : Bool} (h : convC cnt w pl n mute pos wid len r = .ok p q c' w' pl') : q.length < r.length ∧ c' ≤ cnt + 1 ∧ p.arg ≤ 64 := by
  cases r with
  | nil => cases h
  | cons c r =>
    rw [convC] at h
    cases hb : (decide (sclass c = 0) || !slong ((sclass c : Nat) : Int) (len : Int)) || (decide (sclass c = 5) && (mute || decide (0 < wid)))
    · rw [hb, cond_false] at h
      split at h
      · cases hs : stL r with
        | none => rw [hs] at h; cases h
        | some X =>
          obtain ⟨S, q0⟩ := X
          rw [hs] at h
          obtain ⟨e1, e2, e3⟩ := convE_ok h
          obtain ⟨u, hu⟩ := stL_suf hs
          have := congrArg List.length hu
          rw [List.length_append] at this
          rw [e1, List.length_cons]
          exact ⟨by omega, e2, e3⟩
      obtain ⟨e1, e2, e3⟩ := convE_ok h
      rw [e1, List.length_cons]
      exact ⟨by omega, e2, e3⟩
    rw [hb, cond_true] at h; cases h
theorem convL_ok {cnt : Nat} {w pl : Bool} {r : List Nat} {p : Pc} {q : List Nat} {c' : Nat} {w' pl' : Bool} (h : convL cnt w pl r = .ok p q c' w' pl') : q.length < r.length ∧ c' ≤ cnt + 1 ∧ p.arg ≤ 64 := by
  unfold convL at h
  obtain ⟨a, b, c⟩ := convC_ok h
  rw [List.length_drop] at a
  have h1 := (dgL_le 0 (argL r).2.2.2 (by decide)).2
  obtain ⟨u, hu⟩ := argL_suf r
  have := congrArg List.length hu
  rw [List.length_append] at this
  exact ⟨by omega, b, c⟩
theorem pieceL_ok {cnt : Nat} {w pl : Bool} {r : List Nat} {p : Pc} {q : List Nat} {c' : Nat} {w' pl' : Bool} (h : pieceL cnt w pl r = .ok p q c' w' pl') : q.length < r.length ∧ c' ≤ cnt + 1 ∧ p.arg ≤ 64 := by
  cases r with
  | nil => cases h
  | cons c r =>
    rw [pieceL] at h
    cases hw : swhite c
    · rw [hw, cond_false] at h
      split at h
      · cases h3 : hdIs r 37
        · rw [h3, cond_false] at h
          cases hc : convL cnt w pl r with
          | bad => rw [hc] at h; cases h
          | lim => rw [hc] at h; cases h
          | ok p0 q0 c0 w0 pl0 =>
            rw [hc] at h
            injection h with a b c d e
            subst a; subst b; subst c
            obtain ⟨h1, h2, h3⟩ := convL_ok hc
            exact ⟨by rw [List.length_cons]; omega, h2, h3⟩
        rw [h3, cond_true] at h
        injection h with a b c d e
        subst a; subst b; subst c
        rw [List.length_drop, List.length_cons]
        exact ⟨by omega, Nat.le_succ _, by show (0 : Int) ≤ 64; decide⟩
      rename_i h37
      cases h0 : hdIs (runL splain (c :: r)).2 0
      · rw [h0, cond_false] at h
        injection h with a b c' d e
        subst a; subst b; subst c'
        refine ⟨?_, Nat.le_succ _, by show (0 : Int) ≤ 64; decide⟩
        rw [runL] at h0 ⊢
        cases hp : splain c
        · rw [hp] at h0
          have h0 : decide (c = 0) = false := h0
          have h0 := of_decide_eq_false h0
          unfold splain at hp
          rw [decide_eq_true h0, decide_eq_true h37, hw] at hp
          cases hp
        show (runL splain r).2.length < (c :: r).length
        have := runL_len splain r
        rw [List.length_cons]; omega
      rw [h0, cond_true] at h; cases h
    rw [hw, cond_true] at h
    injection h with a b c' d e
    subst a; subst b; subst c'
    refine ⟨?_, Nat.le_succ _, by show (0 : Int) ≤ 64; decide⟩
    rw [runL, hw]
    show (runL swhite r).2.length < (c :: r).length
    have := runL_len swhite r
    rw [List.length_cons]; omega
theorem convC_suf {cnt n wid len : Nat} {w pl mute pos : Bool} {r : List Nat} {p : Pc} {q : List Nat} {c' : Nat} {w' pl' : Bool} (h : convC cnt w pl n mute pos wid len r = .ok p q c' w' pl') : ∃ u, r = u ++ q := by
  cases r with
  | nil => cases h
  | cons c r =>
    rw [convC] at h
    cases hb : (decide (sclass c = 0) || !slong ((sclass c : Nat) : Int) (len : Int)) || (decide (sclass c = 5) && (mute || decide (0 < wid)))
    · rw [hb, cond_false] at h
      split at h
      · cases hs : stL r with
        | none => rw [hs] at h; cases h
        | some X =>
          obtain ⟨S, q0⟩ := X
          rw [hs] at h
          obtain ⟨e1, _, _⟩ := convE_ok h
          obtain ⟨u, hu⟩ := stL_suf hs
          exact ⟨c :: u, by rw [hu, e1]; rfl⟩
      obtain ⟨e1, _, _⟩ := convE_ok h
      exact ⟨[c], by rw [e1]; rfl⟩
    rw [hb, cond_true] at h; cases h
theorem convL_suf {cnt : Nat} {w pl : Bool} {r : List Nat} {p : Pc} {q : List Nat} {c' : Nat} {w' pl' : Bool} (h : convL cnt w pl r = .ok p q c' w' pl') : ∃ u, r = u ++ q := by
  unfold convL at h
  obtain ⟨u1, h1⟩ := convC_suf h
  obtain ⟨u2, h2⟩ := dgL_suf 0 (argL r).2.2.2
  obtain ⟨u3, h3⟩ := argL_suf r
  refine ⟨u3 ++ (u2 ++ ((dgL 0 (argL r).2.2.2).2.take (lenAt (modL (dgL 0 (argL r).2.2.2).2)).length ++ u1)), ?_⟩
  rw [List.append_assoc, List.append_assoc, List.append_assoc, ← h1, List.take_append_drop, ← h2, ← h3]
theorem pieceL_suf {cnt : Nat} {w pl : Bool} {r : List Nat} {p : Pc} {q : List Nat} {c' : Nat} {w' pl' : Bool} (h : pieceL cnt w pl r = .ok p q c' w' pl') : ∃ u, r = u ++ q := by
  cases r with
  | nil => cases h
  | cons c r =>
    rw [pieceL] at h
    cases hw : swhite c
    · rw [hw, cond_false] at h
      split at h
      · cases h3 : hdIs r 37
        · rw [h3, cond_false] at h
          cases hc : convL cnt w pl r with
          | bad => rw [hc] at h; cases h
          | lim => rw [hc] at h; cases h
          | ok p0 q0 c0 w0 pl0 =>
            rw [hc] at h
            injection h with a b c1 d e
            subst b
            obtain ⟨u, hu⟩ := convL_suf hc
            exact ⟨c :: u, by rw [hu]; rfl⟩
        rw [h3, cond_true] at h
        injection h with a b c1 d e
        subst b
        exact ⟨c :: r.take 1, by rw [List.cons_append, List.take_append_drop]⟩
      cases h0 : hdIs (runL splain (c :: r)).2 0
      · rw [h0, cond_false] at h
        injection h with a b c' d e
        subst b
        exact ⟨_, (runL_app splain (c :: r)).symm⟩
      rw [h0, cond_true] at h; cases h
    rw [hw, cond_true] at h
    injection h with a b c' d e
    subst b
    exact ⟨_, (runL_app swhite (c :: r)).symm⟩
theorem pieceL_err {cnt : Nat} {w pl : Bool} {r : List Nat} {e : Int} {q : List Nat} (h : pieceL cnt w pl r = .err e q) : e = 6 ∨ e = 2 := by
  cases r with
  | nil => injection h with a; exact .inl a.symm
  | cons c r =>
    rw [pieceL] at h
    cases hw : swhite c
    · rw [hw, cond_false] at h
      split at h
      · cases h3 : hdIs r 37
        · rw [h3, cond_false] at h
          cases hc : convL cnt w pl r with
          | bad => rw [hc] at h; injection h with a; exact .inl a.symm
          | lim => rw [hc] at h; injection h with a; exact .inr a.symm
          | ok p0 q0 c0 w0 pl0 => rw [hc] at h; cases h
        rw [h3, cond_true] at h; cases h
      cases h0 : hdIs (runL splain (c :: r)).2 0
      · rw [h0, cond_false] at h; cases h
      rw [h0, cond_true] at h; injection h with a; exact .inl a.symm
    rw [hw, cond_true] at h; cases h
theorem OutS.kp {H H' : Heap} {d : D} {out : List Pc} (h : OutS H d out) (k : Kp H H' 2) : OutS H' d out :=
  h.imp id fun ⟨a, id, b, c, e⟩ => ⟨a, id, b, c, (k.2 id (List.getElem?_eq_some_iff.1 e).1 (by omega)).trans e⟩
noncomputable abbrev QP (P3 : List Pc × Int × Int) : Post := QFin Cg [.tmp 2, .cell 3 24, .cell 4 3] fun o _ => o.pure = true ∧ o = .ret (.tup [slP P3.1, .int .i64 P3.2.1, .int .i64 P3.2.2])
theorem panP {P3 : List Pc × Int × Int} {env : List D} {H : Heap} {e : Int} {a : Nat} (h2 : env[2]? = some .nilsl) (h3 : env[3]? = some (.ptr 0 0)) (h4 : env[4]? = some (.ptr 1 0)) (g0 : H[0]? = some (errO 0)) (g1 : H[1]? = some (intO 0)) (hr : P3 = ([], e, (a : Int))) : QP P3 (.pan (wrongP e a)) env H [.fn Zbk [.ptr 0 0, .ptr 1 0]] := by
  refine DC.mono (dct_wrong H 0 1 0 0 e a g0 g1 (by decide)) ?_
  rintro _ _ ⟨rfl, rfl⟩
  have k0 : ((H.set 0 (errO e)).set 1 (intO (a : Int)))[0]? = some (errO e) := by rw [List.getElem?_set_ne (by decide)]; exact heap_set_get g0
  have k1 : ((H.set 0 (errO e)).set 1 (intO (a : Int)))[1]? = some (intO (a : Int)) := heap_set_get (by rw [List.getElem?_set_ne (by decide)]; exact g1)
  exact ⟨_, _, _, .tmp h2 (ResR.cell1 h3 rfl rfl k0 rfl (ResR.cell1 h4 rfl rfl k1 rfl .nil)), .cons .nil (.cons (.same _) (.cons (.same _) .nil)), rfl, by rw [hr]; rfl⟩
theorem Zee (s : ByteArray) : PC Cg ZaV [.str s] (fun o => o = .ret (.tup [slP (parseF s).1, .int .i64 (parseF s).2.1, .int .i64 (parseF s).2.2])) := by
  obtain ⟨P3, hP3⟩ : ∃ P3, P3 = parseF s := ⟨_, rfl⟩
  rw [← hP3]
  unfold parseF at hP3
  have hl := sby_len s
  refine PC.rn Zb1 ZdT ZdU (rs := [.tmp 2, .cell 3 24, .cell 4 3]) (by rw [ZdV]) ?_
  refine ARun.seq (ARun.region ?_); refine zza ?_
  refine y_new rfl (ZaN rfl rfl rfl rfl) ?_
  refine y_new rfl (ZaN rfl rfl rfl rfl) ?_
  refine AOps.nil (ARun.seq (ARun.seq (ARun.region ?_))); refine zzm ?_
  refine y_op rfl (Zag rfl rfl) ?_
  refine zzi ?_; refine AOps.nil ?_
  refine ARun.ite rfl (fun g => ?_) (fun g => ?_)
  · skip
    rw [if_pos (show 2000 < s.size by omega)] at hP3
    subst hP3
    refine ARun.seq (ARun.region ?_); refine zza ?_
    first
      | refine y_new rfl (Zad rfl rfl rfl rfl rfl rfl (Nat.le_of_ble_eq_true rfl) rfl) ?_
      | refine y_new rfl (Zad rfl rfl rfl rfl rfl rfl (by simp; omega) (win_set (by assumption) (by omega))) ?_
      | refine y_new rfl (Zad rfl rfl rfl rfl rfl rfl (by simp; omega) nts_set) ?_
    first
      | refine y_new rfl (Zad rfl rfl rfl rfl rfl rfl (Nat.le_of_ble_eq_true rfl) rfl) ?_
      | refine y_new rfl (Zad rfl rfl rfl rfl rfl rfl (by simp; omega) (win_set (by assumption) (by omega))) ?_
      | refine y_new rfl (Zad rfl rfl rfl rfl rfl rfl (by simp; omega) nts_set) ?_
    refine AOps.nil ?_
    refine ARun.ret ?_
    exact ⟨_, _, _, .tmp rfl (ResR.cell1 rfl rfl rfl rfl rfl (ResR.cell1 rfl rfl rfl rfl rfl .nil)), .cons .nil (.cons (.same _) (.cons (.same _) .nil)), rfl, rfl⟩
  have hmax : s.size ≤ 2000 := by omega
  rw [if_neg (show ¬ 2000 < s.size by omega)] at hP3
  obtain ⟨R, hR⟩ : ∃ R, R = prsF (s.size + 1) [] 0 false false (sby s) := ⟨_, rfl⟩
  rw [← hR] at hP3
  refine ARun.skip (ARun.seq (ARun.region ?_)); refine zza ?_; refine AOps.nil (ARun.seq (ARun.region ?_))
  refine ZiN rfl rfl rfl ?_
  refine AOps.nil (ARun.seq (ARun.region ?_)); refine zzm ?_
  refine y_op rfl (Za9 rfl rfl rfl rfl rfl) ?_
  refine y_op rfl (Za9 rfl rfl rfl rfl rfl) ?_
  refine y_new rfl (n_box rfl rfl rfl) ?_
  refine zza ?_; refine AOps.nil (ARun.seq (ARun.block ?_))
  refine ARun.loopI (S := List Pc × D × Nat × Nat × Bool × Bool × Nat × Heap) (fun σ : List Pc × D × Nat × Nat × Bool × Bool × Nat × Heap => [(2, .nilsl), (5, σ.2.1), (16, .any), (17, .any), (18, .any), (19, .any), (20, .any), (21, .any), (22, .any), (23, .any), (24, .any), (25, .any), (26, .any), (27, .any), (28, .any), (29, .any), (30, .any), (31, .any), (32, .any), (33, .any), (34, .any), (35, .any), (36, .any)]) (fun σ : List Pc × D × Nat × Nat × Bool × Bool × Nat × Heap => σ.2.2.2.2.2.2.2) (fun σ : List Pc × D × Nat × Nat × Bool × Bool × Nat × Heap => OutS σ.2.2.2.2.2.2.2 σ.2.1 σ.1 ∧ σ.2.2.2.2.2.2.2[0]? = some (errO 0) ∧ σ.2.2.2.2.2.2.2[1]? = some (intO 0) ∧ σ.2.2.2.2.2.2.2[2]? = some (rdS s σ.2.2.1 σ.2.2.2.1 σ.2.2.2.2.1 σ.2.2.2.2.2.1) ∧ σ.2.2.1 ≤ s.size ∧ σ.2.2.2.1 ≤ σ.1.length ∧ σ.1.length ≤ 500 ∧ (∀ p ∈ σ.1, p.arg ≤ 64) ∧ s.size - σ.2.2.1 < σ.2.2.2.2.2.2.1 ∧ R = prsF σ.2.2.2.2.2.2.1 σ.1 σ.2.2.2.1 σ.2.2.2.2.1 σ.2.2.2.2.2.1 ((sby s).drop σ.2.2.1)) (fun σ : List Pc × D × Nat × Nat × Bool × Bool × Nat × Heap => s.size - σ.2.2.1) (([], .nilsl, 0, 0, false, false, s.size + 1, [errO 0, intO 0, rdS s 0 0 false false])) ?_ ?_ ?_ ?_
  · exact ⟨.inl ⟨rfl, rfl⟩, rfl, rfl, rfl, Nat.zero_le _, Nat.zero_le _, Nat.zero_le _, (fun p h => by cases h), Nat.lt_succ_self _, hR⟩
  · (repeat' first | exact envLe_nil | apply envLe_any | apply envLe_same)
  · rfl
  rintro ⟨out, d, i, n, w, pl, f, H⟩ hinv ih
  dsimp only at hinv ih ⊢
  obtain ⟨i1, i2, i3, i4, i5, i6, i7, i8, i9, i10⟩ := hinv
  obtain ⟨f, rfl⟩ : ∃ f', f = f' + 1 := ⟨f - 1, by omega⟩
  refine ARun.seq (ARun.seq (ARun.region ?_)); refine zzm ?_
  refine y_op rfl (q_nil rfl rfl) ?_
  first
    | refine y_op rfl (q_fldP rfl rfl rfl (by decide)) ?_
    | refine y_op rfl (q_fldS rfl rfl rfl (by decide)) ?_
  first
    | refine y_op rfl (q_fldP rfl rfl rfl (by decide)) ?_
    | refine y_op rfl (q_fldS rfl rfl rfl (by decide)) ?_
  refine y_op rfl (Zaa rfl rfl rfl i4 rfl) ?_
  refine zzm ?_
  refine y_op rfl (Zag rfl rfl) ?_
  refine y_op rfl (OpQ.cast (d' := .bool (decide (i < s.size))) (q_int rfl rfl rfl) (congrArg D.bool (decide_eq_decide.2 (by omega)))) ?_
  refine AOps.nil ?_
  refine ARun.ite rfl (fun g => ?_) (fun g => ?_)
  · skip
    have hne : ¬ (sby s).drop i = [] := fun e => by
      have := congrArg List.length e
      rw [List.length_drop, hl] at this
      simp at this; omega
    rw [prsF, if_neg hne] at i10
    refine ARun.skip (ARun.block (ARun.seq (ARun.seq (ARun.region ?_)))); refine zzm ?_
    refine y_op rfl (Ziy rfl i1) ?_
    refine y_op rfl (OpQ.cast (d' := .bool (decide (out.length = 500))) (q_int rfl rfl rfl) (congrArg D.bool (decide_eq_decide.2 (by omega)))) ?_
    refine AOps.nil ?_
    refine ARun.ite rfl (fun z => ?_) (fun z => ?_)
    · skip
      rw [if_pos z] at i10
      rw [i10] at hP3
      replace hP3 : P3 = ([], 2, ((s.size - ((sby s).drop i).length : Nat) : Int)) := hP3
      rw [← hl, drop_back (by omega)] at hP3
      subst hP3
      refine ARun.seq (ARun.region ?_); refine zzm ?_
      refine y_op rfl (q_nil rfl rfl) ?_
      first
        | refine y_op rfl (q_fldP rfl rfl rfl (by decide)) ?_
        | refine y_op rfl (q_fldS rfl rfl rfl (by decide)) ?_
      first
        | refine y_op rfl (q_fldP rfl rfl rfl (by decide)) ?_
        | refine y_op rfl (q_fldS rfl rfl rfl (by decide)) ?_
      refine y_op rfl (Zaa rfl rfl rfl i4 rfl) ?_
      refine zza ?_
      refine y_new rfl (Zad rfl rfl rfl rfl i2 rfl (Nat.le_of_ble_eq_true rfl) rfl) ?_
      refine y_new rfl (Zad rfl rfl rfl rfl (show (H.set 0 (errO 2))[1]? = _ by rw [List.getElem?_set_ne (by decide)]; exact i3) rfl (Nat.le_of_ble_eq_true rfl) rfl) ?_
      refine AOps.nil ?_
      refine ARun.ret ?_
      refine DC.mono (dct_ret _ 0 1) ?_
      rintro _ _ ⟨rfl, rfl⟩
      have k0 : ((H.set 0 (errO 2)).set 1 (intO (i : Int)))[0]? = some (errO 2) := by rw [List.getElem?_set_ne (by decide)]; exact heap_set_get i2
      have k1 : ((H.set 0 (errO 2)).set 1 (intO (i : Int)))[1]? = some (intO (i : Int)) := heap_set_get (by rw [List.getElem?_set_ne (by decide)]; exact i3)
      exact ⟨_, _, _, .tmp rfl (ResR.cell1 rfl rfl rfl k0 rfl (ResR.cell1 rfl rfl rfl k1 rfl .nil)), .cons .nil (.cons (.same _) (.cons (.same _) .nil)), rfl, rfl⟩
    rw [if_neg z] at i10
    have hpc := Zix H 2 s i n w pl i4 g hmax (by omega)
    have hok := fun p q c' w' pl' => pieceL_ok (cnt := n) (w := w) (pl := pl) (r := (sby s).drop i) (p := p) (q := q) (c' := c') (w' := w') (pl' := pl')
    have hsuf := fun p q c' w' pl' => pieceL_suf (cnt := n) (w := w) (pl := pl) (r := (sby s).drop i) (p := p) (q := q) (c' := c') (w' := w') (pl' := pl')
    have herr := fun e q => pieceL_err (cnt := n) (w := w) (pl := pl) (r := (sby s).drop i) (e := e) (q := q)
    have hH3 : 3 ≤ H.length := (List.getElem?_eq_some_iff.1 i4).1
    generalize pieceL n w pl ((sby s).drop i) = X at *
    cases X with
    | err e q =>
      replace i10 : R = ([], e, q) := i10
      have he := herr e q rfl
      rw [i10] at hP3
      replace hP3 : P3 = ([], e, ((s.size - q.length : Nat) : Int)) := by
        rw [hP3]
        show (([] : List Pc), e, if e = 0 then (0 : Int) else ((s.size - q.length : Nat) : Int)) = _
        rw [if_neg (by omega)]
      refine ARun.skip (ARun.region ?_); refine zzm ?_; refine zzm ?_
      refine Zah rfl rfl rfl rfl hpc (by rintro _ _ ⟨_, h⟩; cases h) (fun q0 H' hq => by obtain ⟨hq1, hq⟩ := hq; injection hq with hq; subst hq; exact panP rfl rfl rfl ((hq1.2 0 (by omega) (by decide)).trans i2) ((hq1.2 1 (by omega) (by decide)).trans i3) hP3)
    | ok p q c' w' pl' =>
      replace i10 : R = prsF f (out ++ [p]) c' w' pl' q := i10
      obtain ⟨o1, o2, o3⟩ := hok p q c' w' pl' rfl
      rw [List.length_drop, hl] at o1
      obtain ⟨u, hu⟩ := hsuf p q c' w' pl' rfl
      obtain ⟨e7, e8⟩ := suf_drop (l := sby s) (i := i) (by omega) hu
      rw [hl] at e7 e8
      refine ARun.skip (ARun.region ?_); refine zzm ?_; refine zzm ?_
      refine Zah rfl rfl rfl rfl hpc ?_ (by rintro _ _ ⟨_, h, _⟩; cases h)
      rintro q1 H1 ⟨f0, f1, f2⟩
      injection f1 with f1
      subst f1
      have iO := i1.kp f0
      have hH1 := f0.1
      refine y_op rfl (Zba rfl rfl rfl rfl rfl rfl rfl rfl rfl rfl rfl (by decide) (by decide) rfl) ?_
      refine Ziz (p := p) rfl rfl iO rfl (by omega) (by omega) (fun d' H' a1 a2 a3 => ?_)
      refine zza ?_; refine AOps.nil (ARun.inBlock ?_)
      refine ARun.again (ih ((out ++ [p], d', s.size - q.length, c', w', pl', f, H')) ?_ ?_) ?_ ?_
      · exact ⟨a1, (a2 0 (by decide)).trans ((f0.2 0 (by omega) (by decide)).trans i2), (a2 1 (by decide)).trans ((f0.2 1 (by omega) (by decide)).trans i3), (a2 2 (by decide)).trans f2, (by dsimp only; omega), (by dsimp only; rw [List.length_append]; show _ ≤ _ + 1; omega), (by dsimp only; rw [List.length_append]; show _ + 1 ≤ _; omega), (fun x hx => by rw [List.mem_append, List.mem_singleton] at hx; rcases hx with hx | hx; exact i8 x hx; rw [hx]; exact o3), (by dsimp only; omega), (by dsimp only; rw [e7]; exact i10)⟩
      · (dsimp only; omega)
      · (repeat' first | exact envLe_nil | apply envLe_any | apply envLe_same)
      rfl
  have his : i = s.size := by omega
  subst his
  rw [List.drop_eq_nil_of_le (by omega), prsF, if_pos rfl] at i10
  refine ARun.exit rfl ?_
  refine ARun.seq (ARun.seq (ARun.region ?_)); refine zzm ?_
  refine Zid rfl rfl rfl i1 (PC.g (Zfe out (by omega) i8)) (fun H' b1 b2 => ?_)
  have k0 := (b2 0 (by decide)).trans i2
  have k1 := (b2 1 (by decide)).trans i3
  refine zzm ?_; refine zze ?_; refine zze ?_; refine zza ?_; refine zza ?_; refine AOps.nil (ARun.seq (ARun.region ?_)); refine zzm ?_; refine AOps.nil ?_
  refine ARun.cond rfl (fun v => ?_) (fun v => ?_)
  · skip
    have v : (sgr out).2 = false := by simpa using v
    rw [v, cond_false] at i10
    rw [i10] at hP3
    replace hP3 : P3 = ([], 6, ((s.size - ([] : List Nat).length : Nat) : Int)) := hP3
    refine ARun.region ?_; refine zzm ?_
    refine y_op rfl (Zag rfl rfl) ?_
    refine Zah rfl rfl rfl rfl (HC.g (hc_bad H' s.size)) (by rintro _ _ ⟨h, _⟩; cases h) (fun q0 H' hq => by obtain ⟨hq, rfl⟩ := hq; injection hq with hq; subst hq; exact panP rfl rfl rfl k0 k1 hP3)
  have v : (sgr out).2 = true := by simpa using v
  rw [v, cond_true] at i10
  rw [i10] at hP3
  replace hP3 : P3 = (out, 0, 0) := hP3
  subst hP3
  refine ARun.skip (ARun.seq (ARun.region ?_)); refine zzm ?_; refine zza ?_
  refine y_new rfl (Zad rfl rfl rfl rfl k0 rfl (Nat.le_of_ble_eq_true rfl) rfl) ?_
  refine y_new rfl (Zad rfl rfl rfl rfl (show (H'.set 0 (errO 0))[1]? = _ by rw [List.getElem?_set_ne (by decide)]; exact k1) rfl (Nat.le_of_ble_eq_true rfl) rfl) ?_
  refine AOps.nil ?_
  refine ARun.ret ?_
  refine DC.mono (dct_ret _ 0 1) ?_
  rintro _ _ ⟨rfl, rfl⟩
  have m0 : ((H'.set 0 (errO 0)).set 1 (intO 0))[0]? = some (errO 0) := by rw [List.getElem?_set_ne (by decide)]; exact heap_set_get k0
  have m1 : ((H'.set 0 (errO 0)).set 1 (intO 0))[1]? = some (intO 0) := heap_set_get (by rw [List.getElem?_set_ne (by decide)]; exact k1)
  have b2 : OutD ((H'.set 0 (errO 0)).set 1 (intO 0)) d out := by
    rw [show (H'.set 0 (errO 0)).set 1 (intO 0) = H' by rw [heap_set_self k0, heap_set_self k1]]
    exact b1
  obtain ⟨ids, hfz⟩ := b2.fz
  exact ⟨_, _, _, .tmp rfl (ResR.cell1 rfl rfl rfl m0 rfl (ResR.cell1 rfl rfl rfl m1 rfl .nil)), .cons hfz (.cons (.same _) (.cons (.same _) .nil)), by rfl, rfl⟩
end Go.V
set_option maxHeartbeats 4000000
set_option maxRecDepth 100000
namespace Go.V
open Go.RowKit Go.Proofs
noncomputable def prsG : Nat → Nat → Nat → Bool → Bool → List Nat → List Pc × Int × List Nat
  | 0, _, _, _, _, r => ([], 6, r)
  | f + 1, m, cnt, w, pl, r =>
    if r = [] then ([], 0, []) else
    if m = 500 then ([], 2, r) else
    match pieceL cnt w pl r with
    | .err e q => ([], e, q)
    | .ok p q cnt' w' pl' => (p :: (prsG f (m + 1) cnt' w' pl' q).1, (prsG f (m + 1) cnt' w' pl' q).2)
theorem prsF_G : ∀ (f : Nat) (out : List Pc) (cnt : Nat) (w pl : Bool) (r : List Nat), prsF f out cnt w pl r = if (prsG f out.length cnt w pl r).2.1 = 0 then (bif (sgr (out ++ (prsG f out.length cnt w pl r).1)).2 then (out ++ (prsG f out.length cnt w pl r).1, 0, []) else ([], 6, [])) else ([], (prsG f out.length cnt w pl r).2.1, (prsG f out.length cnt w pl r).2.2)
  | 0, out, cnt, w, pl, r => rfl
  | f + 1, out, cnt, w, pl, r => by
    rw [prsF, prsG]
    by_cases h1 : r = []
    · rw [if_pos h1, if_pos h1, if_pos rfl, List.append_nil]
    rw [if_neg h1, if_neg h1]
    by_cases h2 : out.length = 500
    · rw [if_pos h2, if_pos h2]; rfl
    rw [if_neg h2, if_neg h2]
    cases hp : pieceL cnt w pl r with
    | err e q =>
      have he := pieceL_err hp
      simp only
      rw [if_neg (by omega)]
    | ok p q c' w' pl' =>
      simp only
      have ih := prsF_G f (out ++ [p]) c' w' pl' q
      rw [List.length_append, List.length_singleton] at ih
      rw [ih, List.append_assoc, List.singleton_append]
abbrev sx1 : ByteArray := ⟨#[37, 100, 32, 44, 37, 42, 53, 115, 37, 108, 102]⟩
abbrev sx2 : ByteArray := ⟨#[37, 50, 36, 115, 37, 49, 36, 91, 94, 93, 97, 45, 99, 93]⟩
abbrev sx3 : ByteArray := ⟨#[37, 49, 36, 100, 37, 100]⟩
abbrev sx4 : ByteArray := ⟨#[97, 45, 99, 45, 101]⟩
def lx1 : List Pc := [⟨ByteArray.empty, 1, 0, 0, 100, sempty⟩, bareP ByteArray.empty 0 0 0 32, bareP (bytesOf [44]) 0 0 0 0, ⟨ByteArray.empty, 0, 5, 0, 115, sempty⟩, ⟨ByteArray.empty, 2, 0, 3, 102, sempty⟩]
noncomputable def setx : Nat → Bool := (readS (bytesOf [94, 93, 97, 45, 99])).1
noncomputable def lx2 : List Pc := [⟨ByteArray.empty, 2, 0, 0, 115, sempty⟩, ⟨ByteArray.empty, 1, 0, 0, 91, setx⟩]
theorem gx1 : prsG 12 0 0 false false (sby sx1) = (lx1, 0, []) := by rfl
theorem gx2 : prsG 15 0 0 false false (sby sx2) = (lx2, 0, []) := by rfl
theorem gx3 : prsG 7 0 0 false false (sby sx3) = ([⟨ByteArray.empty, 1, 0, 0, 100, sempty⟩], 6, [37, 100]) := by rfl
theorem sgr_2 {l : List Pc} (hm : smost l 0 = 2) (h1 : sused l 1 = true) (h2 : sused l 2 = true) : sgr l = (2, true) := by
  unfold sgr
  rw [hm, show (2 : Int).toNat = 2 from rfl, sall_yes (by decide) h1, sall_yes (by decide) h2, sall_end (by decide)]
theorem sgr_1 : sgr lx1 = (2, true) := sgr_2 rfl rfl rfl
theorem sgr_x2 : sgr lx2 = (2, true) := sgr_2 rfl rfl rfl
theorem parse_G {s : ByteArray} (hs : s.size ≤ 2000) : parseF s = if (prsG (s.size + 1) 0 0 false false (sby s)).2.1 = 0 then (bif (sgr (prsG (s.size + 1) 0 0 false false (sby s)).1).2 then ((prsG (s.size + 1) 0 0 false false (sby s)).1, 0, 0) else ([], 6, (s.size : Int))) else ([], (prsG (s.size + 1) 0 0 false false (sby s)).2.1, ((s.size - (prsG (s.size + 1) 0 0 false false (sby s)).2.2.length : Nat) : Int)) := by
  unfold parseF
  rw [if_neg (by omega), prsF_G]
  simp only [List.length_nil, List.nil_append]
  generalize prsG (s.size + 1) 0 0 false false (sby s) = g
  by_cases h : g.2.1 = 0
  · rw [if_pos h, if_pos h]
    cases (sgr g.1).2
    · rfl
    rfl
  rw [if_neg h, if_neg h]
  simp only
  rw [if_neg h]
theorem px1 : parseF sx1 = (lx1, 0, 0) := by
  rw [parse_G (by decide), show prsG (sx1.size + 1) 0 0 false false (sby sx1) = (lx1, 0, []) from gx1, if_pos rfl, sgr_1]; rfl
theorem px2 : parseF sx2 = (lx2, 0, 0) := by
  rw [parse_G (by decide), show prsG (sx2.size + 1) 0 0 false false (sby sx2) = (lx2, 0, []) from gx2, if_pos rfl, sgr_x2]; rfl
theorem px3 : parseF sx3 = ([], 6, 4) := by
  rw [parse_G (by decide), show prsG (sx3.size + 1) 0 0 false false (sby sx3) = ([⟨ByteArray.empty, 1, 0, 0, 100, sempty⟩], 6, [37, 100]) from gx3, if_neg (by decide)]; rfl
theorem bad_1 : ∀ i, i < 5 → sbad lx1 i = false
  | 0, _ | 1, _ | 2, _ | 3, _ | 4, _ => by rfl
  | i + 5, h => by omega
theorem bad_2 : ∀ i, i < 2 → sbad lx2 i = false
  | 0, _ | 1, _ => by rfl
  | i + 2, h => by omega
theorem schk_all' {l : List Pc} (h : ∀ i, i < l.length → sbad l i = false) (hg : (sgr l).2 = true) : ∀ i, i ≤ l.length → schk l i = (0, 0)
  | i, hi => by
    rcases Nat.lt_or_ge i l.length with g | g
    · rw [schk_go g (h i g)]; exact schk_all' h hg (i + 1) g
    rw [schk_end (by omega), hg]; rfl
termination_by i => l.length - i
theorem check_1 : scheck lx1 = (0, 0) := by
  unfold scheck
  rw [if_neg (by decide)]
  exact schk_all' (l := lx1) bad_1 (by rw [sgr_1]) 0 (by decide)
theorem check_2 : scheck lx2 = (0, 0) := by
  unfold scheck
  rw [if_neg (by decide)]
  exact schk_all' (l := lx2) bad_2 (by rw [sgr_x2]) 0 (by decide)
theorem args_1 : sArgs lx1 = (2, 0) := by unfold sArgs; rw [check_1, if_pos rfl, sgr_1]
theorem ord_2 : sOrd lx2 = (false, 0) := by unfold sOrd; rw [check_2, if_pos rfl]; rfl
theorem rtx_skip {T : Nat → Bool} {c : Nat} (d : Nat) (hd : d ≤ 256) (hcd : c ≤ d) (h : ∀ x, c ≤ x → x < d → rin T x = false) : rtx T c = rtx T d := by
  rcases Nat.eq_or_lt_of_le hcd with rfl | g
  · rfl
  rw [rtx_no (by omega) (h c (Nat.le_refl c) g)]
  exact rtx_skip (c := c + 1) d hd g (fun x h1 h2 => h x (by omega) h2)
termination_by d - c
theorem tx2 : setTx setx = ([94, 93, 97, 45, 99], 0) := by
  have h0 : setx 0 = false := by rfl
  have hn : setNeg (ssize setx 256) (setx 94) = true := by decide
  have h1 : ∀ x, x < 97 → rin (sother setx) x = false := by decide
  have h2 : ∀ x, x < 256 → 100 ≤ x → rin (sother setx) x = false := by decide
  have h3 : rin (sother setx) 97 = true ∧ rin (sother setx) 98 = true ∧ rin (sother setx) 99 = true := by decide
  have hr : rend (sother setx) 97 = 99 := rend_at (by decide) (fun x a b => ⟨by omega, by
    rcases (show x = 98 ∨ x = 99 by omega) with rfl | rfl
    · exact h3.2.1
    exact h3.2.2⟩) (fun g => by rw [h2 100 (by decide) (by decide)] at g; cases g.2)
  have hx : rtx (sother setx) 1 = [97, 45, 99] := by
    rw [rtx_skip 97 (by decide) (by decide) (fun x _ b => h1 x b), rtx_yes (by decide) h3.1, hr, rtx_skip 256 (by decide) (by decide) (fun x a b => h2 x b a), rtx_end]; rfl
  unfold setTx
  rw [h0, cond_false, hn, cond_true]
  unfold setBody
  rw [hx]; rfl
noncomputable def setx4 : Nat → Bool := (readS sx4).1
theorem rx4 : readS sx4 = (setx4, 0) := by rfl
theorem tx4 : setTx setx4 = ([97, 45, 99, 101, 45], 0) := by
  have h0 : setx4 0 = false := by rfl
  have hn : setNeg (ssize setx4 256) (setx4 94) = false := by decide
  have hd : ((decide (ssize setx4 256 = 2) && setx4 94) && setx4 45) = false := by decide
  have h1 : ∀ x, x < 97 → rin setx4 x = false := by decide
  have h2 : ∀ x, x < 256 → 102 ≤ x → rin setx4 x = false := by decide
  have h3 : rin setx4 97 = true ∧ rin setx4 98 = true ∧ rin setx4 99 = true := by decide
  have h4 : rin setx4 100 = false ∧ rin setx4 101 = true := by decide
  have hr : rend setx4 97 = 99 := rend_at (by decide) (fun x a b => ⟨by omega, by
    rcases (show x = 98 ∨ x = 99 by omega) with rfl | rfl
    · exact h3.2.1
    exact h3.2.2⟩) (fun g => by rw [h4.1] at g; cases g.2)
  have hr2 : rend setx4 101 = 101 := rend_no (fun g => by rw [h2 102 (by decide) (by decide)] at g; cases g.2)
  have hx : rtx setx4 1 = [97, 45, 99, 101] := by
    rw [rtx_skip 97 (by decide) (by decide) (fun x _ b => h1 x b), rtx_yes (by decide) h3.1, hr, rtx_no (by decide) h4.1, rtx_yes (by decide) h4.2, hr2, rtx_skip 256 (by decide) (by decide) (fun x a b => h2 x b a), rtx_end]; rfl
  unfold setTx
  rw [h0, cond_false, hn, cond_false, hd, cond_false]
  unfold setBody
  rw [hx]; rfl
theorem dn1 : dnum 1 = [49] := dnum_one (by decide)
theorem dn2 : dnum 2 = [50] := dnum_one (by decide)
theorem prn_2 : sPrint lx2 = (sx2, 0) := by
  unfold sPrint
  have ho : sord lx2 0 = false := by rfl
  have hs : sprs lx2 true = sx2 := by
    unfold sprs lx2
    simp only [List.foldl_cons, List.foldl_nil]
    have a1 : sprn ⟨ByteArray.empty, 2, 0, 0, 115, sempty⟩ true = bytesOf [37, 50, 36, 115] := by
      unfold sprn sconv pHead pWid pSet
      rw [if_neg (by decide), if_neg (by decide), if_neg (by decide), if_neg (by decide), cond_true, show (2 : Int).toNat = 2 from rfl, dn2]; rfl
    have a2 : sprn ⟨ByteArray.empty, 1, 0, 0, 91, setx⟩ true = bytesOf [37, 49, 36, 91, 94, 93, 97, 45, 99, 93] := by
      unfold sprn sconv pHead pWid pSet
      rw [if_neg (by decide), if_neg (by decide), if_neg (by decide), if_neg (by decide), cond_true, show (1 : Int).toNat = 1 from rfl, dn1, if_neg (by decide), if_pos rfl, tx2]; rfl
    rw [a1, a2]; rfl
  rw [check_2, if_pos rfl, ho, Bool.not_false, hs, if_neg (by decide)]
end Go.V
set_option maxHeartbeats 8000000
set_option maxRecDepth 100000
set_option synthInstance.maxSize 100000
set_option synthInstance.maxHeartbeats 2000000
namespace Go.V
open Go.RowKit Go.Proofs
theorem q_pcB {env : List D} {H : Heap} {dst : Option Tmp} {x y : Operand} {ty T' : TypeId} {pos : String} {aft : Array Edge} {gd : Option (Nat × Bool)} {p : Pc} {s : ByteArray} {a w n : Int} {c : Nat} (hx : evO Cg env x = some (pcA p)) (hy : evO Cg env y = some (.agg [.str s, .int .i64 a, .int .i64 w, .int .i64 n, .int .u8 (c : Int), .int .u64 0, .int .u64 0, .int .u64 0, .int .u64 0])) (hp : PcF p) (hq : PcF (bareP s a w n c)) :
    OpQ Cg ⟨dst, .binOp .eql Zae x y T', ty, pos, aft, gd⟩ env H (.bool (pEq p (bareP s a w n c))) := Zh9 hx (by rw [hy, bare_cells]) hp hq
theorem pEq_rfl (p : Pc) : pEq p p = true := by unfold pEq; exact decide_eq_true ⟨rfl, rfl, rfl, rfl, rfl, rfl, rfl, rfl, rfl⟩
theorem wfS {a w n : Int} {c : Nat} {S : Nat → Bool} (ha : (Lit.int .i64 a).wf = true) (hw : (Lit.int .i64 w).wf = true) (hn : (Lit.int .i64 n).wf = true) (hc : c < 256) : PcF ⟨ByteArray.empty, a, w, n, c, S⟩ := ⟨⟨by show (0 : Nat) ≤ _; decide, hc⟩, ha, hw, hn⟩
theorem Zfg : PC Cg Zgk [] (fun o => o = .ret (.bool true)) := by
  obtain ⟨S, hS⟩ : ∃ S, S = setx := ⟨_, rfl⟩
  obtain ⟨S4, hS4⟩ : ∃ S4, S4 = setx4 := ⟨_, rfl⟩
  obtain ⟨l1, hl1⟩ : ∃ l1, l1 = lx1 := ⟨_, rfl⟩
  obtain ⟨l2, hl2⟩ : ∃ l2, l2 = lx2 := ⟨_, rfl⟩
  have h100 : S 100 = true := by rw [hS]; rfl
  have h98 : S 98 = false := by rw [hS]; rfl
  have f1 : ∀ p ∈ l1, PcF p := by
    rw [hl1]
    intro p hp
    simp only [lx1, List.mem_cons, List.not_mem_nil, or_false] at hp
    rcases hp with rfl | rfl | rfl | rfl | rfl
    · exact wfS (by decide) (by decide) (by decide) (by decide)
    · exact wfS (by decide) (by decide) (by decide) (by decide)
    · exact ⟨⟨by decide, by decide⟩, by decide, by decide, by decide⟩
    · exact wfS (by decide) (by decide) (by decide) (by decide)
    exact wfS (by decide) (by decide) (by decide) (by decide)
  have f2 : ∀ p ∈ l2, PcF p := by
    rw [hl2]
    intro p hp
    simp only [lx2, List.mem_cons, List.not_mem_nil, or_false] at hp
    rcases hp with rfl | rfl
    · exact wfS (by decide) (by decide) (by decide) (by decide)
    exact wfS (by decide) (by decide) (by decide) (by decide)
  have g2 : ∀ p ∈ l2, p.lit.size ≤ 1048576 := by
    rw [hl2]
    intro p hp
    simp only [lx2, List.mem_cons, List.not_mem_nil, or_false] at hp
    rcases hp with rfl | rfl
    · decide
    decide
  have n1 : l1.length = 5 := by rw [hl1]; rfl
  have n2 : l2.length = 2 := by rw [hl2]; rfl
  have c1 : PC Cg ZaV [.str sx1] (fun o => o = .ret (.tup [slP l1, .int .i64 0, .int .i64 0])) := by have := Zee sx1; rw [px1, ← hl1] at this; exact this
  have c2 : PC Cg ZaV [.str sx2] (fun o => o = .ret (.tup [slP l2, .int .i64 0, .int .i64 0])) := by have := Zee sx2; rw [px2, ← hl2] at this; exact this
  have c3 : PC Cg ZaV [.str sx3] (fun o => o = .ret (.tup [slP [], .int .i64 6, .int .i64 4])) := by have := Zee sx3; rw [px3] at this; exact this
  have c4 : PC Cg Zcu [slP l2] (fun o => o = .ret (.tup [.str sx2, .int .i64 0])) := by have := ZfR l2 f2 g2 (by omega); rw [show sPrint l2 = (sx2, 0) by rw [hl2]; exact prn_2] at this; exact this
  have c5 : PC Cg ZbL [.str sx4] (fun o => o = .ret (.tup [setD S4, .int .i64 0])) := by have := PC.g (Zbm sx4); rw [rx4, ← hS4] at this; exact this
  have c6 : PC Cg ZbN [setD S4] (fun o => o = .ret (.tup [.str (bytesOf [97, 45, 99, 101, 45]), .int .i64 0])) := by have := PC.g (ZbV S4); rw [show setTx S4 = ([97, 45, 99, 101, 45], 0) by rw [hS4]; exact tx4] at this; exact this
  have c7 : PC Cg ZcL [slP l1] (fun o => o = .ret (.tup [.int .i64 2, .int .i64 0])) := by have := ZgL l1 f1 (by omega); rw [show sArgs l1 = (2, 0) by rw [hl1]; exact args_1] at this; exact this
  have c8 : PC Cg ZbM [slP l2] (fun o => o = .ret (.tup [.bool false, .int .i64 0])) := by have := Zep l2 f2 (by omega); rw [show sOrd l2 = (false, 0) by rw [hl2]; exact ord_2] at this; exact this
  have d0 := pcs_drop l1 0 (by omega)
  have d1 := pcs_drop l1 1 (by omega)
  have d3 := pcs_drop l1 3 (by omega)
  have d4 := pcs_drop l1 4 (by omega)
  have e1 := pcs_drop l2 1 (by omega)
  have m1 : pcs l1 ≠ [] := pcs_ne (i := 0) (by omega)
  have m2 : pcs l2 ≠ [] := pcs_ne (i := 0) (by omega)
  rw [show l1.getD 0 pcZ = bareP ByteArray.empty 1 0 0 100 by rw [hl1]; rfl] at d0
  rw [show l1.getD 1 pcZ = bareP ByteArray.empty 0 0 0 32 by rw [hl1]; rfl] at d1
  rw [show l1.getD 3 pcZ = bareP ByteArray.empty 0 5 0 115 by rw [hl1]; rfl] at d3
  rw [show l1.getD 4 pcZ = bareP ByteArray.empty 2 0 3 102 by rw [hl1]; rfl] at d4
  rw [show l2.getD 1 pcZ = ⟨ByteArray.empty, 1, 0, 0, 91, S⟩ by rw [hl2, hS]; rfl] at e1
  have w0 : PcF (bareP ByteArray.empty 1 0 0 100) := wfS (by decide) (by decide) (by decide) (by decide)
  have w1 : PcF (bareP ByteArray.empty 0 0 0 32) := wfS (by decide) (by decide) (by decide) (by decide)
  have w3 : PcF (bareP ByteArray.empty 0 5 0 115) := wfS (by decide) (by decide) (by decide) (by decide)
  have w4 : PcF (bareP ByteArray.empty 2 0 3 102) := wfS (by decide) (by decide) (by decide) (by decide)
  clear hS hS4 hl1 hl2
  refine PC.rn Zdy ZfZ Zf0 (rs := [.tmp 0]) (by rw [Zf1]) ?_
  refine ARun.seq (ARun.region ?_); refine zza ?_; refine AOps.nil (ARun.seq (ARun.region ?_))
  refine zzc rfl rfl (c1) ?_
  refine zzm ?_; refine zze ?_; refine zze ?_; refine zze ?_; refine zza ?_; refine zza ?_; refine zza ?_; refine AOps.nil (ARun.seq (ARun.region ?_))
  refine zzc rfl rfl (c2) ?_
  refine zzm ?_; refine zze ?_; refine zze ?_; refine zze ?_; refine zza ?_; refine zza ?_; refine zza ?_; refine AOps.nil (ARun.seq (ARun.region ?_))
  refine zzc rfl rfl (c3) ?_
  refine zzm ?_; refine zze ?_; refine zze ?_; refine zze ?_; refine zza ?_; refine zza ?_; refine zza ?_; refine AOps.nil (ARun.seq (ARun.region ?_)); refine zzm ?_
  refine zzc rfl rfl (c4) ?_
  refine zzm ?_; refine zze ?_; refine zze ?_; refine zza ?_; refine zza ?_; refine AOps.nil (ARun.seq (ARun.region ?_))
  refine zzc rfl rfl (c5) ?_
  refine zzm ?_; refine zze ?_; refine zze ?_
  refine Zbb rfl rfl rfl rfl rfl rfl rfl rfl rfl rfl rfl ?_
  refine zza ?_; refine AOps.nil (ARun.seq (ARun.region ?_)); refine zzL ?_
  refine zzc rfl rfl (c6) ?_
  refine zzm ?_; refine zze ?_; refine zze ?_; refine zza ?_; refine zza ?_; refine AOps.nil (ARun.seq (ARun.region ?_)); refine zzm ?_
  refine zzc rfl rfl (c7) ?_
  refine zzm ?_; refine zze ?_; refine zze ?_; refine zza ?_; refine zza ?_; refine AOps.nil (ARun.seq (ARun.region ?_)); refine zzm ?_
  refine zzc rfl rfl (c8) ?_
  refine zzm ?_; refine zze ?_; refine zze ?_; refine zza ?_; refine zza ?_; refine AOps.nil (ARun.seq (ARun.seq (ARun.region ?_))); refine zzm ?_; refine zzi ?_; refine zzm ?_; refine zzm ?_; refine zzi ?_; refine zzp ?_; refine zzm ?_; refine zzm ?_; refine zzi ?_; refine zzp ?_; refine zzm ?_; refine zzm ?_; refine zzi ?_; refine zzp ?_; refine zzm ?_; refine zzm ?_; refine zzi ?_; refine zzp ?_; refine zzm ?_; refine zzm ?_; refine zzi ?_; refine zzp ?_; refine zzm ?_; refine zzm ?_; refine zzi ?_; refine zzp ?_; refine zzm ?_; refine zzm ?_; refine zzi ?_; refine zzp ?_; refine zzm ?_; refine zzm ?_; refine zzi ?_; refine zzp ?_; refine zzm ?_; refine zzm ?_; refine zzN ?_
  refine y_op rfl (OpQ.cast (d' := .bool false) (q_int rfl rfl rfl) (by rw [n1]; rfl)) ?_
  refine zzp ?_; refine zzm ?_; refine zzm ?_; refine zzN ?_
  refine y_op rfl (OpQ.cast (d' := .bool false) (q_int rfl rfl rfl) (by rw [n2]; rfl)) ?_
  refine zzp ?_; refine zzm ?_; refine zzm ?_; refine zzi ?_; refine zzp ?_; refine zzm ?_; refine zzm ?_; refine zzp ?_; refine AOps.nil ?_
  refine ARun.condF rfl ?_
  refine ARun.skip (ARun.seq (ARun.region ?_)); refine zzm ?_
  refine y_op rfl (Zaf rfl rfl rfl rfl (by omega) (by omega) m1 d0) ?_
  refine zzL ?_
  refine y_op rfl (Za9 rfl rfl rfl rfl rfl) ?_
  refine y_op rfl (OpQ.cast (d' := .bool true) (q_pcB (p := bareP ByteArray.empty 1 0 0 100) (s := ByteArray.empty) (a := 1) (w := 0) (n := 0) (c := 100) rfl rfl w0 w0) (congrArg D.bool (pEq_rfl _))) ?_
  refine zzm ?_; refine zzm ?_
  refine y_op rfl (Zaf rfl rfl rfl rfl (by omega) (by omega) m1 d1) ?_
  refine zzL ?_
  refine y_op rfl (Za9 rfl rfl rfl rfl rfl) ?_
  refine y_op rfl (OpQ.cast (d' := .bool true) (q_pcB (p := bareP ByteArray.empty 0 0 0 32) (s := ByteArray.empty) (a := 0) (w := 0) (n := 0) (c := 32) rfl rfl w1 w1) (congrArg D.bool (pEq_rfl _))) ?_
  refine zzp ?_; refine zzm ?_; refine zzm ?_
  refine y_op rfl (Zaf rfl rfl rfl rfl (by omega) (by omega) m1 d3) ?_
  refine zzL ?_
  refine y_op rfl (Za9 rfl rfl rfl rfl rfl) ?_
  refine y_op rfl (OpQ.cast (d' := .bool true) (q_pcB (p := bareP ByteArray.empty 0 5 0 115) (s := ByteArray.empty) (a := 0) (w := 5) (n := 0) (c := 115) rfl rfl w3 w3) (congrArg D.bool (pEq_rfl _))) ?_
  refine zzp ?_; refine zzm ?_; refine zzm ?_
  refine y_op rfl (Zaf rfl rfl rfl rfl (by omega) (by omega) m1 d4) ?_
  refine zzL ?_
  refine y_op rfl (Za9 rfl rfl rfl rfl rfl) ?_
  refine y_op rfl (OpQ.cast (d' := .bool true) (q_pcB (p := bareP ByteArray.empty 2 0 3 102) (s := ByteArray.empty) (a := 2) (w := 0) (n := 3) (c := 102) rfl rfl w4 w4) (congrArg D.bool (pEq_rfl _))) ?_
  refine zzp ?_; refine zza ?_; refine AOps.nil (ARun.seq (ARun.region ?_)); refine zzm ?_; refine zzm ?_; refine zzm ?_
  refine y_op rfl (OpQ.cast (d' := .bool true) (ZeM rfl rfl) (congrArg D.bool (by rw [str_eq]; exact decide_eq_true rfl))) ?_
  refine zzp ?_; refine zzm ?_; refine zzm ?_
  refine y_op rfl (OpQ.cast (d' := .bool true) (ZeM rfl rfl) (congrArg D.bool (by rw [str_eq]; exact decide_eq_true rfl))) ?_
  refine zzp ?_; refine zzm ?_; refine zzm ?_
  refine y_op rfl (Zaf rfl rfl rfl rfl (by omega) (by omega) m2 e1) ?_
  refine zzf ?_; refine zzL ?_
  refine y_op rfl (OpQ.cast (d' := .bool true) (q_call rfl rfl (PC.g (ZaL S 100 (by decide)))) (congrArg D.bool h100)) ?_
  refine zzp ?_; refine zzm ?_; refine zzm ?_
  refine y_op rfl (Zaf rfl rfl rfl rfl (by omega) (by omega) m2 e1) ?_
  refine zzf ?_; refine zzL ?_
  refine y_op rfl (OpQ.cast (d' := .bool false) (q_call rfl rfl (PC.g (ZaL S 98 (by decide)))) (congrArg D.bool h98)) ?_
  refine zzn ?_; refine zzp ?_; refine zza ?_; refine AOps.nil ?_
  refine ARun.ret ?_
  refine ⟨_, _, _, .tmp rfl .nil, .cons (.same _) .nil, rfl, ?_⟩
  rfl
end Go.V
set_option maxHeartbeats 4000000
set_option maxRecDepth 100000
namespace Go.V
open Go.RowKit Go.Proofs
/-! A SET's TEXT, READ AGAIN. -/
theorem readS_caret {r : List Nat} (hb : ∀ c ∈ r, c < 256) (hl : r.length + 1 ≤ 2000) : readS (bytesOf (94 :: r)) = readR true r := by
  have hs : sby (bytesOf (94 :: r)) = 94 :: r := sby_bytesOf (fun c hc => (List.mem_cons.1 hc).elim (fun e => by omega) (hb c))
  have hz : (bytesOf (94 :: r)).size = r.length + 1 := by rw [bytesOf_size, List.length_cons]
  have hp : isPre (bytesOf (94 :: r)) sCaret = true := by
    rw [isCaret, hs, decide_eq_true (by rw [hz]; omega)]; rfl
  unfold readS
  rw [if_neg (by rw [hz]; omega), hp]
  congr 1
  unfold cutR
  rw [hp, cond_true]
  show sby ((bytesOf (94 :: r)).extract 1 (bytesOf (94 :: r)).size) = r
  rw [hz, Nat.add_comm r.length 1, sby_cut (by rw [hz]; omega), hs]
  exact List.take_length
theorem readS_plain {l : List Nat} (hb : ∀ c ∈ l, c < 256) (hl : l.length ≤ 2000) (h : ∀ r, l ≠ 94 :: r) : readS (bytesOf l) = readR false l := by
  have hs : sby (bytesOf l) = l := sby_bytesOf hb
  have hz : (bytesOf l).size = l.length := bytesOf_size l
  have hp : isPre (bytesOf l) sCaret = false := by
    rw [isCaret, hs]
    cases l with
    | nil => rfl
    | cons c r =>
      have : (c :: r).getD 0 0 ≠ 94 := fun e => h r (by rw [show c = 94 from e])
      rw [decide_eq_false this, Bool.and_false]
  unfold readS
  rw [if_neg (by rw [hz]; omega), hp]
  unfold cutR
  rw [hp, cond_false, hs]
theorem ssize_ex {T : Nat → Bool} (h : ssize T 256 ≠ 0) : ∃ x, x < 256 ∧ T x = true := by
  apply Classical.byContradiction
  intro hn
  apply h
  rw [ssize_cnt]
  exact cnt_zero 0 fun x _ hx => by
    cases g : T x
    · rfl
    exact absurd ⟨x, hx, g⟩ hn
theorem ssize_two {S : Nat → Bool} {a b : Nat} (ha : a < 256) (hb : b < 256) (hab : a ≠ b) (hA : S a = true) (hB : S b = true) : 2 ≤ ssize S 256 := by
  have : cnt (fun y => (if y = a then 1 else 0) + (if y = b then 1 else 0)) 0 ≤ cnt (fun x => b2n (S x)) 0 := cnt_le 0 fun y _ _ => by
    by_cases e : y = a
    · subst e; rw [if_pos rfl, if_neg hab, hA]; exact Nat.le_refl 1
    rw [if_neg e]
    by_cases e2 : y = b
    · subst e2; rw [if_pos rfl, hB]; exact Nat.le_refl 1
    rw [if_neg e2]; exact Nat.zero_le _
  rw [cnt_add, cnt_one (a := a) 0 (Nat.zero_le _) ha (fun y _ _ hne => if_neg hne), cnt_one (a := b) 0 (Nat.zero_le _) hb (fun y _ _ hne => if_neg hne), if_pos rfl, if_pos rfl, ← ssize_cnt] at this
  exact this
theorem readR_body {T : Nat → Bool} {neg : Bool} (h0 : T 0 = false) (hne : ssize T 256 ≠ 0) : ∃ A, readR neg (setBody T) = (bif neg then sother A else A, 0) ∧ ∀ x, x < 256 → A x = T x := by
  obtain ⟨x, hx, hT⟩ := ssize_ex hne
  have h1 : 1 ≤ x := by
    rcases Nat.eq_zero_or_pos x with rfl | h
    · rw [h0] at hT; cases hT
    exact h
  have hn := body_ne h1 hx hT
  have hg := body_good h0 hn
  obtain ⟨A, a, b⟩ := rdI_body T
  refine ⟨A, readR_some hg a, fun y hy => ?_⟩
  rcases Nat.eq_zero_or_pos y with rfl | h
  · rw [h0]
    refine rdI_nz _ _ _ (fun c hc e => ?_) rfl a
    subst e
    unfold rdBad at hg
    rw [Bool.or_eq_false_iff, Bool.or_eq_false_iff] at hg
    exact of_decide_eq_false hg.1.2 hc
  exact b y h hy
theorem sother_sother {S : Nat → Bool} {A : Nat → Bool} (h0 : S 0 = false) (h : ∀ x, x < 256 → A x = sother S x) : ∀ x, x < 256 → sother A x = S x := by
  intro x hx
  unfold sother
  rw [h x hx]
  unfold sother
  by_cases e : x = 0
  · subst e; rw [h0]; rfl
  rw [decide_eq_true e]; cases S x <;> rfl
theorem setTx_zero {S : Nat → Bool} : (setTx S).2 = 0 ↔ S 0 = false := by
  unfold setTx
  cases S 0
  · rw [cond_false]
    cases setNeg (ssize S 256) (S 94)
    · rw [cond_false]
      cases (decide (ssize S 256 = 2) && S 94) && S 45 <;> exact ⟨fun _ => rfl, fun _ => rfl⟩
    exact ⟨fun _ => rfl, fun _ => rfl⟩
  exact ⟨(fun h => by cases h), (fun h => by cases h)⟩
theorem setTx_back {S : Nat → Bool} (h0 : S 0 = false) : ∃ A, readS (bytesOf (setTx S).1) = (A, 0) ∧ ∀ x, x < 256 → A x = S x := by
  have hL := setTx_128 S
  have ho := ssize_other h0
  unfold setTx at hL ⊢
  rw [h0, cond_false] at hL ⊢
  cases hn : setNeg (ssize S 256) (S 94)
  · rw [hn, cond_false] at hL
    rw [cond_false]
    have hn' := hn
    unfold setNeg at hn
    simp only [Bool.or_eq_false_iff, Bool.and_eq_false_iff, decide_eq_false_iff_not] at hn
    cases h2 : (decide (ssize S 256 = 2) && S 94) && S 45
    · rw [h2, cond_false] at hL
      rw [cond_false]
      have hL : (setBody S).length ≤ 128 := hL
      show ∃ A, readS (bytesOf (setBody S)) = (A, 0) ∧ _
      have hc : ∀ r, setBody S ≠ 94 :: r := by
        intro r hr
        have hall := body_caret hr
        have h93 : S 93 = false := by
          cases g : S 93
          · rfl
          rcases hall 93 (by decide) (by decide) g with e | e <;> omega
        have hrt : rtx S 1 = [] := by
          rw [rtx_skip 256 (Nat.le_refl _) (by decide) (fun x a b => ?_), rtx_end]
          cases g : rin S x
          · rfl
          have := rin_ne g
          rcases hall x a b this.1 with e | e
          · exact absurd e this.2.2.2
          exact absurd e this.2.1
        unfold setBody at hr
        rw [h93, hrt] at hr
        have hr : pre1 (S 94) 94 ++ pre1 (S 45) 45 = 94 :: r := hr
        cases g94 : S 94
        · rw [g94] at hr
          have hr : pre1 (S 45) 45 = 94 :: r := hr
          cases g45 : S 45
          · rw [g45] at hr; cases hr
          rw [g45] at hr
          have hr : [45] = 94 :: r := hr
          injection hr with hr; cases hr
        have hb : cnt (fun x => b2n (S x)) 0 ≤ cnt (fun y => (if y = 94 then 1 else 0) + (if y = 45 then b2n (S 45) else 0)) 0 := cnt_le 0 fun y _ hy => by
          by_cases e : y = 94
          · subst e; rw [if_pos rfl]; have := b2n_le (S 94); omega
          by_cases e2 : y = 45
          · subst e2; rw [if_pos rfl]; exact Nat.le_add_left _ _
          cases g : S y
          · exact Nat.zero_le _
          have h1 : 1 ≤ y := by
            rcases Nat.eq_zero_or_pos y with h | h
            · rw [h, h0] at g; cases g
            exact h
          rcases hall y h1 hy g with e3 | e3
          · exact absurd e3 e
          exact absurd e3 e2
        rw [cnt_add, cnt_one (a := 94) 0 (Nat.zero_le _) (by decide) (fun y _ _ hne => if_neg hne), cnt_one (a := 45) 0 (Nat.zero_le _) (by decide) (fun y _ _ hne => if_neg hne), if_pos rfl, if_pos rfl, ← ssize_cnt] at hb
        cases g45 : S 45
        · rw [g45] at hb
          have hb : ssize S 256 ≤ 1 := hb
          rw [g94] at hn
          have := hn.1.1
          have := hn.2
          simp only [Bool.true_eq_false, or_false] at this
          omega
        rw [g45] at hb
        have hb : ssize S 256 ≤ 2 := hb
        have := ssize_two (a := 94) (b := 45) (by decide) (by decide) (by decide) g94 g45
        rw [g94, g45, decide_eq_true (show ssize S 256 = 2 by omega)] at h2
        cases h2
      rw [readS_plain (setBody_lt S) (by omega) hc]
      obtain ⟨A, a, b⟩ := readR_body (neg := false) h0 hn.1.1
      exact ⟨A, a, b⟩
    rw [cond_true]
    simp only [Bool.and_eq_true, decide_eq_true_eq] at h2
    obtain ⟨⟨e2, e94⟩, e45⟩ := h2
    refine ⟨sr (sr sempty 45 46) 94 95, ?_, fun x hx => ?_⟩
    · rw [show (([45, 94], 0) : List Nat × Int).1 = [45, 94] from rfl, readS_plain (by decide) (by decide) (fun r e => by cases e)]
      rfl
    rw [sr_in, sr_in]
    by_cases h1 : x = 45
    · subst h1; rw [e45]; rfl
    by_cases h3 : x = 94
    · subst h3; rw [e94]; rfl
    rw [two_of e2 (a := 94) (b := 45) (by decide) (by decide) (by decide) e94 e45 hx h3 h1]
    unfold sempty
    rw [Bool.false_or, ← Bool.decide_and, ← Bool.decide_and, ← Bool.decide_or]
    exact decide_eq_false (by omega)
  rw [hn, cond_true] at hL
  rw [cond_true]
  have hL : (setBody (sother S)).length + 1 ≤ 128 := hL
  show ∃ A, readS (bytesOf (94 :: setBody (sother S))) = (A, 0) ∧ _
  rw [readS_caret (setBody_lt _) (by omega)]
  have hne : ssize (sother S) 256 ≠ 0 := by
    unfold setNeg at hn
    simp only [Bool.or_eq_true, Bool.and_eq_true, decide_eq_true_eq] at hn
    omega
  obtain ⟨A, a, b⟩ := readR_body (neg := true) (T := sother S) (by unfold sother; rw [decide_eq_false (by omega), Bool.and_false]) hne
  exact ⟨sother A, a, sother_sother h0 b⟩
theorem readS_ok {s : ByteArray} {A : Nat → Bool} (h : readS s = (A, 0)) : s.size ≤ 2000 ∧ 1 ≤ s.size ∧ A 0 = false := by
  by_cases h1 : 2000 < s.size
  · unfold readS at h; rw [if_pos h1] at h; injection h with _ h; cases h
  refine ⟨by omega, ?_⟩
  have hb : ∀ c ∈ sby s, c < 256 := fun c hc => sby_mem hc
  have hl := sby_len s
  have hs := bytesOf_sby s
  generalize sby s = l at *
  rw [← hs] at h
  have key : ∀ (neg : Bool) (r : List Nat), readR neg r = (A, 0) → r ≠ [] ∧ A 0 = false := by
    intro neg r hr
    cases hg : rdBad r
    · refine ⟨(fun e => by rw [e] at hg; cases hg), ?_⟩
      cases hi : rdI sempty r with
      | none => rw [readR_none hg hi] at hr; injection hr with _ hr; cases hr
      | some B =>
        rw [readR_some hg hi] at hr
        injection hr with hr
        have h0 : B 0 = false := by
          refine rdI_nz _ _ _ (fun c hc e => ?_) rfl hi
          subst e
          unfold rdBad at hg
          rw [Bool.or_eq_false_iff, Bool.or_eq_false_iff] at hg
          exact of_decide_eq_false hg.1.2 hc
        rw [← hr]
        cases neg
        · exact h0
        show (!B 0 && decide ((0 : Nat) ≠ 0)) = false
        rw [decide_eq_false (by omega), Bool.and_false]
    rw [readR_bad hg] at hr; injection hr with _ hr; cases hr
  cases l with
  | nil =>
    rw [readS_plain hb (by show (0 : Nat) ≤ _; omega) (fun r e => by cases e)] at h
    exact absurd rfl (key _ _ h).1
  | cons c r =>
    rw [List.length_cons] at hl
    refine ⟨by omega, ?_⟩
    by_cases hc : c = 94
    · subst hc
      rw [readS_caret (fun x hx => hb x (List.mem_cons_of_mem _ hx)) (by omega)] at h
      exact (key _ _ h).2
    rw [readS_plain hb (by rw [List.length_cons]; omega) (fun r' e => hc (by injection e))] at h
    exact (key _ _ h).2
theorem readS_behind {s : ByteArray} {A : Nat → Bool} (h : readS s = (A, 0)) (hc : (sby s).getD 0 0 ≠ 94) (hz : s.size ≠ 2000) : readS (sCaret ++ s) = (sother A, 0) := by
  obtain ⟨h1, h2, _⟩ := readS_ok h
  have hb : ∀ c ∈ sby s, c < 256 := fun c hc => sby_mem hc
  have hl := sby_len s
  have hs := bytesOf_sby s
  generalize sby s = l at *
  have hcat : sCaret ++ s = bytesOf (94 :: l) := by
    rw [show (94 :: l) = [94] ++ l from rfl, bytesOf_append, hs]; rfl
  rw [hcat, readS_caret hb (by omega)]
  rw [← hs, readS_plain hb (by omega) (fun r e => hc (by rw [e]; rfl))] at h
  cases hg : rdBad l
  · cases hi : rdI sempty l with
    | none => rw [readR_none hg hi] at h; injection h with _ h; cases h
    | some B =>
      rw [readR_some hg hi] at h ⊢
      injection h with h
      have h : B = A := h
      rw [h]; rfl
  rw [readR_bad hg] at h; injection h with _ h; cases h
end Go.V
set_option maxHeartbeats 8000000
set_option maxRecDepth 100000
set_option synthInstance.maxSize 100000
set_option synthInstance.maxHeartbeats 2000000
namespace Go.V
open Go.RowKit Go.Proofs
end Go.V
set_option maxHeartbeats 8000000
set_option maxRecDepth 100000
set_option synthInstance.maxSize 100000
set_option synthInstance.maxHeartbeats 2000000
namespace Go.V
open Go.RowKit Go.Proofs
theorem ZiA {env : List D} {H : Heap} {dst : Option Tmp} {x y : Operand} {ty T' : TypeId} {pos : String} {aft : Array Edge} {gd : Option (Nat × Bool)} {S T : Nat → Bool} (hx : evO Cg env x = some (setD S)) (hy : evO Cg env y = some (setD T)) :
    OpQ Cg ⟨dst, .binOp .neq Zac x y T', ty, pos, aft, gd⟩ env H (.bool (!sEq S T)) :=
  Zh5 (m := 2) (f := 2) (by kernel_rfl) (by decide) (by kernel_rfl) hx hy rfl rfl rfl rfl (set_lits (sw_lt S 0) (sw_lt S 1) (sw_lt S 2) (sw_lt S 3)) (set_lits (sw_lt T 0) (sw_lt T 1) (sw_lt T 2) (sw_lt T 3)) (by
    unfold sEq
    rw [decide_eq_true_eq]
    simp only [List.cons.injEq, Lit.int.injEq, true_and, and_true, Int.ofNat_inj])
theorem ScanSetBack_n (S : Nat → Bool) (s : ByteArray) {c : Nat} (hc : c < 256) (h0 : S 0 = false) : PC Cg ZaX [setD S, .str s, .int .u8 (c : Int)] (fun o => o = .ret (.bool true)) := by
  have c2 := PC.g (ZbV S)
  obtain ⟨A, hA, hAS⟩ := setTx_back h0
  have hz := setTx_zero.2 h0
  have hl := setTx_128 S
  generalize hP : setTx S = P at c2 hA hz hl
  obtain ⟨l, e⟩ := P
  have hz : e = 0 := hz
  subst hz
  have hl : l.length ≤ 128 := hl
  have hA : readS (bytesOf l) = (A, 0) := hA
  have c3 := PC.g (Zbm (bytesOf l))
  rw [hA] at c3
  have c4 := PC.g (Zbm s)
  rcases hB : readS s with ⟨B, eB⟩
  rw [hB] at c4
  refine PC.rn ZaP Zbq Zbr (rs := [.tmp 6]) (by rw [Zbs]) ?_
  refine ARun.seq (ARun.region ?_)
  refine y_new rfl (n_box rfl rfl rfl) ?_
  refine zza ?_; refine AOps.nil (ARun.seq (ARun.region ?_))
  refine zzc rfl rfl (Zfg) ?_
  refine zza ?_; refine AOps.nil (ARun.seq (ARun.region ?_))
  refine y_op rfl (Zab rfl rfl rfl rfl rfl rfl) ?_
  refine zzc rfl rfl (c2) ?_
  refine zzm ?_; refine zze ?_; refine zze ?_; refine zza ?_; refine zza ?_; refine AOps.nil (ARun.seq (ARun.seq (ARun.region ?_))); refine zzm ?_; refine zzi ?_; refine AOps.nil ?_
  refine ARun.condF rfl ?_
  refine ARun.skip (ARun.seq (ARun.region ?_)); refine zzm ?_
  refine zzc rfl rfl (c3) ?_
  refine zzm ?_; refine zze ?_; refine zze ?_
  refine Zbb rfl rfl rfl rfl rfl rfl rfl rfl rfl rfl rfl ?_
  refine zza ?_; refine AOps.nil (ARun.seq (ARun.seq (ARun.region ?_))); refine zzm ?_; refine zzi ?_; refine zzm ?_; refine zzL ?_
  refine y_op rfl (Zab rfl rfl rfl rfl rfl rfl) ?_
  refine y_op rfl (OpQ.cast (d' := .bool false) (ZiA rfl rfl) (congrArg D.bool (by rw [sEq_ext.2 hAS]; rfl))) ?_
  refine zzp ?_; refine zzm ?_; refine zzm ?_
  refine y_op rfl (Zag rfl rfl) ?_
  refine y_op rfl (OpQ.cast (d' := .bool false) (q_int rfl rfl rfl) (congrArg D.bool (decide_eq_false (by rw [bytesOf_size]; omega)))) ?_
  refine zzp ?_; refine AOps.nil ?_
  refine ARun.condF rfl ?_
  refine ARun.skip (ARun.seq (ARun.region ?_)); refine zzm ?_
  refine zzc rfl rfl (c4) ?_
  refine zzm ?_; refine zze ?_; refine zze ?_
  refine Zbb rfl rfl rfl rfl rfl rfl rfl rfl rfl rfl rfl ?_
  refine zza ?_
  by_cases he : eB = 0
  · skip
    subst he
    have hk := readS_ok hB
    by_cases h94 : (sby s).getD 0 0 = 94
    · skip
      refine AOps.nil (ARun.seq (ARun.seq (ARun.region ?_))); refine zzm ?_
      refine y_op rfl (OpQ.cast (d' := .bool false) (q_int rfl rfl rfl) rfl) ?_
      refine zzm ?_; refine zzm ?_
      refine y_op rfl (Zai rfl rfl rfl (by omega) (by omega) (sby_get (i := 0) _)) ?_
      refine y_op rfl (OpQ.cast (d' := .bool true) (q_int rfl rfl rfl) (congrArg D.bool (decide_eq_true (by omega)))) ?_
      refine zzp ?_; refine zzm ?_; refine zzk ?_; refine zzk ?_; refine zzk ?_; refine zzp ?_; refine zzm ?_; refine zzk ?_; refine zzk ?_; refine zzp ?_; refine AOps.nil ?_
      refine ARun.condT rfl ?_
      refine ARun.seq (ARun.region ?_); refine zzm ?_; refine zza ?_; refine AOps.nil ?_
      refine ARun.ret ?_
      refine ⟨_, _, _, .tmp rfl .nil, .cons (.same _) .nil, rfl, ?_⟩
      rfl
    by_cases h2000 : s.size = 2000
    · skip
      refine AOps.nil (ARun.seq (ARun.seq (ARun.region ?_))); refine zzm ?_
      refine y_op rfl (OpQ.cast (d' := .bool false) (q_int rfl rfl rfl) rfl) ?_
      refine zzm ?_; refine zzm ?_
      refine y_op rfl (Zai rfl rfl rfl (by omega) (by omega) (sby_get (i := 0) _)) ?_
      refine y_op rfl (OpQ.cast (d' := .bool false) (q_int rfl rfl rfl) (congrArg D.bool (decide_eq_false (by omega)))) ?_
      refine zzp ?_; refine zzm ?_; refine zzm ?_
      refine y_op rfl (Zag rfl rfl) ?_
      refine y_op rfl (OpQ.cast (d' := .bool true) (q_int rfl rfl rfl) (congrArg D.bool (decide_eq_true (by omega)))) ?_
      refine zzp ?_; refine zzm ?_; refine zzk ?_; refine zzk ?_; refine zzp ?_; refine AOps.nil ?_
      refine ARun.condT rfl ?_
      refine ARun.seq (ARun.region ?_); refine zzm ?_; refine zza ?_; refine AOps.nil ?_
      refine ARun.ret ?_
      refine ⟨_, _, _, .tmp rfl .nil, .cons (.same _) .nil, rfl, ?_⟩
      rfl
    by_cases hc0 : c = 0
    · skip
      refine AOps.nil (ARun.seq (ARun.seq (ARun.region ?_))); refine zzm ?_
      refine y_op rfl (OpQ.cast (d' := .bool false) (q_int rfl rfl rfl) rfl) ?_
      refine zzm ?_; refine zzm ?_
      refine y_op rfl (Zai rfl rfl rfl (by omega) (by omega) (sby_get (i := 0) _)) ?_
      refine y_op rfl (OpQ.cast (d' := .bool false) (q_int rfl rfl rfl) (congrArg D.bool (decide_eq_false (by omega)))) ?_
      refine zzp ?_; refine zzm ?_; refine zzm ?_
      refine y_op rfl (Zag rfl rfl) ?_
      refine y_op rfl (OpQ.cast (d' := .bool false) (q_int rfl rfl rfl) (congrArg D.bool (decide_eq_false (by omega)))) ?_
      refine zzp ?_; refine zzm ?_; refine zzm ?_
      refine y_op rfl (OpQ.cast (d' := .bool true) (q_int rfl rfl rfl) (congrArg D.bool (decide_eq_true (by omega)))) ?_
      refine zzp ?_; refine AOps.nil ?_
      refine ARun.condT rfl ?_
      refine ARun.seq (ARun.region ?_); refine zzm ?_; refine zza ?_; refine AOps.nil ?_
      refine ARun.ret ?_
      refine ⟨_, _, _, .tmp rfl .nil, .cons (.same _) .nil, rfl, ?_⟩
      rfl
    have c5 := PC.g (Zbm (sCaret ++ s))
    rw [readS_behind hB h94 h2000] at c5
    have d1 := PC.g (ZaL B c hc)
    have d2 := PC.g (ZaL (sother B) c hc)
    have d3 := PC.g (ZaL B 0 (by decide))
    have d4 := PC.g (ZaL (sother B) 0 (by decide))
    have k2 : sother B c = !B c := by unfold sother; rw [decide_eq_true hc0, Bool.and_true]
    have k4 : sother B 0 = false := by unfold sother; rw [decide_eq_false (by omega), Bool.and_false]
    rw [k2] at d2
    rw [hk.2.2] at d3
    rw [k4] at d4
    refine AOps.nil (ARun.seq (ARun.seq (ARun.region ?_))); refine zzm ?_
    refine y_op rfl (OpQ.cast (d' := .bool false) (q_int rfl rfl rfl) rfl) ?_
    refine zzm ?_; refine zzm ?_
    refine y_op rfl (Zai rfl rfl rfl (by omega) (by omega) (sby_get (i := 0) _)) ?_
    refine y_op rfl (OpQ.cast (d' := .bool false) (q_int rfl rfl rfl) (congrArg D.bool (decide_eq_false (by omega)))) ?_
    refine zzp ?_; refine zzm ?_; refine zzm ?_
    refine y_op rfl (Zag rfl rfl) ?_
    refine y_op rfl (OpQ.cast (d' := .bool false) (q_int rfl rfl rfl) (congrArg D.bool (decide_eq_false (by omega)))) ?_
    refine zzp ?_; refine zzm ?_; refine zzm ?_
    refine y_op rfl (OpQ.cast (d' := .bool false) (q_int rfl rfl rfl) (congrArg D.bool (decide_eq_false (by omega)))) ?_
    refine zzp ?_; refine AOps.nil ?_
    refine ARun.condF rfl ?_
    refine ARun.skip (ARun.seq (ARun.region ?_)); refine zzm ?_
    refine y_op rfl (Zal (s := sCaret) rfl rfl (by show 1 + s.size ≤ _; omega)) ?_
    refine zzc rfl rfl (c5) ?_
    refine zzm ?_; refine zze ?_; refine zze ?_
    refine Zbb rfl rfl rfl rfl rfl rfl rfl rfl rfl rfl rfl ?_
    refine zza ?_; refine AOps.nil (ARun.seq ?_)
    refine ARun.drawnP 24 (fun _ => False) mixC rfl rfl (by kernel_rfl) (fun _ _ h => h.elim) ?_
    refine .op rfl (q_move rfl) ?_
    refine .op rfl (q_move rfl) ?_
    refine .op rfl (q_move rfl) ?_
    refine .op rfl (OpQ.cast (d' := .bool true) (q_int rfl rfl rfl) rfl) ?_
    refine .op rfl (q_pick rfl rfl rfl rfl) ?_
    refine .op rfl (q_move rfl) ?_
    refine .op rfl (Zaj rfl rfl rfl rfl rfl) ?_
    refine .op rfl (q_move rfl) ?_
    refine .op rfl (q_call rfl rfl (d1)) ?_
    refine .op rfl (Zaj rfl rfl rfl rfl rfl) ?_
    refine .op rfl (q_move rfl) ?_
    refine .op rfl (q_call rfl rfl (d2)) ?_
    refine .op rfl (OpQ.cast (d' := .bool true) (Zio rfl rfl rfl) (by cases B c <;> rfl)) ?_
    refine .op rfl (q_pick rfl rfl rfl rfl) ?_
    refine .op rfl (q_move rfl) ?_
    refine .op rfl (Zaj rfl rfl rfl rfl rfl) ?_
    refine .op rfl (q_call rfl rfl (d3)) ?_
    refine .op rfl (q_not rfl) ?_
    refine .op rfl (q_pick rfl rfl rfl rfl) ?_
    refine .op rfl (q_move rfl) ?_
    refine .op rfl (Zaj rfl rfl rfl rfl rfl) ?_
    refine .op rfl (q_call rfl rfl (d4)) ?_
    refine .op rfl (q_not rfl) ?_
    refine .op rfl (q_pick rfl rfl rfl rfl) ?_
    refine .nil (fun hG => ?_)
    refine zza ?_; refine AOps.nil ?_
    refine ARun.ret ?_
    refine ⟨_, _, _, .tmp rfl .nil, .cons (.same _) .nil, rfl, ?_⟩
    rfl
  refine AOps.nil (ARun.seq (ARun.seq (ARun.region ?_))); refine zzm ?_
  refine y_op rfl (OpQ.cast (d' := .bool true) (q_int rfl rfl rfl) (congrArg D.bool (show (eB != 0) = true from bne_iff_ne.2 he))) ?_
  refine zzm ?_; refine zzk ?_; refine zzk ?_; refine zzk ?_; refine zzp ?_; refine zzm ?_; refine zzk ?_; refine zzk ?_; refine zzk ?_; refine zzp ?_; refine zzm ?_; refine zzk ?_; refine zzk ?_; refine zzp ?_; refine AOps.nil ?_
  refine ARun.condT rfl ?_
  refine ARun.seq (ARun.region ?_); refine zzm ?_; refine zza ?_; refine AOps.nil ?_
  refine ARun.ret ?_
  refine ⟨_, _, _, .tmp rfl .nil, .cons (.same _) .nil, rfl, ?_⟩
  rfl
theorem ScanSetBack_z (S : Nat → Bool) (s : ByteArray) {c : Nat} (h0 : S 0 = true) : PC Cg ZaX [setD S, .str s, .int .u8 (c : Int)] (fun o => o = .ret (.bool true)) := by
  have c2 := PC.g (ZbV S)
  rw [show setTx S = ([], 1) by unfold setTx; rw [h0]; rfl] at c2
  have d1 := PC.g (ZaL S 0 (by decide))
  rw [h0] at d1
  refine PC.rn ZaP Zbq Zbr (rs := [.tmp 6]) (by rw [Zbs]) ?_
  refine ARun.seq (ARun.region ?_)
  refine y_new rfl (n_box rfl rfl rfl) ?_
  refine zza ?_; refine AOps.nil (ARun.seq (ARun.region ?_))
  refine zzc rfl rfl (Zfg) ?_
  refine zza ?_; refine AOps.nil (ARun.seq (ARun.region ?_))
  refine y_op rfl (Zab rfl rfl rfl rfl rfl rfl) ?_
  refine zzc rfl rfl (c2) ?_
  refine zzm ?_; refine zze ?_; refine zze ?_; refine zza ?_; refine zza ?_; refine AOps.nil (ARun.seq (ARun.seq (ARun.region ?_))); refine zzm ?_; refine zzi ?_; refine AOps.nil ?_
  refine ARun.condT rfl ?_
  refine ARun.seq (ARun.region ?_); refine zzm ?_; refine zzm ?_; refine zzm ?_
  refine y_op rfl (OpQ.cast (d' := .bool true) (q_int rfl rfl rfl) rfl) ?_
  refine zzp ?_; refine zzm ?_
  refine y_op rfl (Zab rfl rfl rfl rfl rfl rfl) ?_
  refine zzc rfl rfl (d1) ?_
  refine zzp ?_; refine zza ?_; refine AOps.nil ?_
  refine ARun.ret ?_
  refine ⟨_, _, _, .tmp rfl .nil, .cons (.same _) .nil, rfl, ?_⟩
  rfl
theorem ZeK (S : Nat → Bool) (s : ByteArray) {n : Int} (h1 : 0 ≤ n) (h2 : n ≤ 255) : PC Cg ZaX [setD S, .str s, .int .u8 n] (fun o => o = .ret (.bool true)) := by
  obtain ⟨c, rfl⟩ := Int.eq_ofNat_of_zero_le h1
  cases h0 : S 0
  · exact ScanSetBack_n S s (by omega) h0
  exact ScanSetBack_z S s h0
end Go.V
/- THE ROWS: what the arguments read as, and what is left behind a call. -/
set_option maxRecDepth 100000
namespace Go.V
open Go.RowKit Go.Proofs Go.ChangeShapes Go.WideShapes Go.ChangeAt Go.ChangeMaps Go.Proofs.YthankfodgdfgaaaDoor
theorem laidOutZ : laidOutB Tryd.prog = true := by kernel_rfl
theorem ownZ : ownKnob Tryd.prog.godebug = none := by kernel_rfl
theorem cell_lt {w : World} {a : Addr} {v : Value} (h : w.cell? a = some v) : a.block < w.heap.size := by
  apply Classical.byContradiction
  intro hn
  have : w.heap[a.block]? = none := by rw [Array.getElem?_eq_none_iff]; omega
  simp [World.cell?, this] at h
theorem forb0 : forb (fun _ => False) [] [] = fun _ => False := by
  funext b
  apply propext
  constructor
  · rintro (h | ⟨i, o, h, _⟩)
    · exact h
    simp at h
  exact fun h => h.elim
section
variable {H : Type} {enc : TypeId × Value → H} {W : World}
theorem vr_u8 {base : Nat} {v : Value} {d : DataW H} {p : List MemPlace} (hv : Value.okWide Tryd.prog W .any base 5 v) (h : DataW.Trod enc Tryd.prog W 0 (fun _ => true) true 5 v d p) :
    ∃ n : Int, 0 ≤ n ∧ n ≤ 255 ∧ VR W (fun _ => False) [] [] (.int .u8 n) v := by
  obtain ⟨n, rfl, _, _, hw⟩ := open_int Tryd.underlying5 hv h
  simp [Lit.wf, IntKind.min, IntKind.max, IntKind.signed, IntKind.bits] at hw
  exact ⟨n, by omega, by omega, by simp only [VR]⟩
theorem vr_string {base : Nat} {v : Value} {d : DataW H} {p : List MemPlace} (hv : Value.okWide Tryd.prog W .any base 9 v) (h : DataW.Trod enc Tryd.prog W 0 (fun _ => true) true 9 v d p) :
    ∃ s : ByteArray, s.size ≤ maxLen ∧ VR W (fun _ => False) [] [] (.str s) v := by
  obtain ⟨s, rfl, _, _, hs⟩ := open_string Tryd.underlying9 hv h
  exact ⟨s, hs, by simp only [VR]⟩
theorem trodAll_stays {W' : World} (hb : Below W.heap.size W W') {sp : Nat → Bool} : ∀ {ts : List TypeId} {vs : List Value} {ds : List (DataW H)} {p : List MemPlace}, (∀ t ∈ ts, Tryd.prog.readableRec t = true ∧ t < Tryd.prog.types.size) →
    DataW.TrodAll enc Tryd.prog W 0 (fun _ => true) true ts vs ds p → (∀ x ∈ p, x.block < W.heap.size ∧ sp x.block = true) → DataW.TrodAll enc Tryd.prog W' 0 sp true ts vs ds p
  | [], _, _, _, _, h, _ => by
    obtain ⟨rfl, rfl, rfl⟩ := trodAll_nil h
    simp [DataW.TrodAll]
  | t :: ts, _, _, _, ht, h, hp => by
    obtain ⟨v, vs, d, ds, a, b, rfl, rfl, rfl, h1, h2⟩ := trodAll_cons h
    obtain ⟨r1, r2⟩ := ht t (List.mem_cons_self ..)
    exact ⟨a, b, WideElems.Trod_stays laidOutZ r1 r2 h1 (fun x hx => hb.same (hp x (List.mem_append_left _ hx)).1) (fun x hx => (hp x (List.mem_append_left _ hx)).2),
      trodAll_stays hb (fun t ht' => ht t (List.mem_cons_of_mem _ ht')) h2 (fun x hx => hp x (List.mem_append_right _ hx)), rfl⟩
theorem law_post {fn : Func} {s : ChangeSpec} {W' : World} {args : Array Value} {ds : List (DataW H)} {before : List MemPlace} (hs : s.vars = []) (hW : DataW.Whole enc Tryd.prog fn.params.toList s.vars false W args.toList ds [] before) (hf : s.fn H ds = { results := [.lit (.bool true)], args := ds })
    (hr : fn.resultTypes = #[4]) (hts : ∀ t ∈ fn.params.toList, Tryd.prog.readableRec t = true ∧ t < Tryd.prog.types.size) (hb : Below W.heap.size W W') : s.post enc Tryd.prog fn false true false false W args (.bool true) W' := by
  have hW' := hW
  obtain ⟨p, q, hA, hV, rfl, _, _⟩ := hW
  rw [hs] at hV
  obtain ⟨_, rfl⟩ := trodVars_none hV
  have hlt : ∀ x ∈ p, x.block < W.heap.size := fun x hx => by simpa using hW'.lt x (List.mem_append_left _ hx)
  refine ⟨ds, [], p ++ [], [], p, [], hW', ?_, ?_, ?_, hb.frame _, fun h => by cases h⟩
  · rw [List.append_nil, hf, hr]
    exact trodAll_mk1 (shut_bool Tryd.underlying4 _)
  · rw [List.append_nil, hf]
    exact trodAll_stays hb hts hA fun x hx => ⟨hlt x hx, by simpa using hlt x hx⟩
  rw [List.append_nil, hf, hs]
  rfl
end
/-! THE TABLES, AS THEY LIE. -/
inductive F2 {A B : Type} (R : A → B → Prop) : List A → List B → Prop where
  | nil : F2 R [] []
  | cons {a : A} {b : B} {xs : List A} {ys : List B} : R a b → F2 R xs ys → F2 R (a :: xs) (b :: ys)
theorem F2.pull {A B : Type} {R : A → B → Prop} {ys zs : List B} (h : ys.Perm zs) : ∀ {xs : List A}, F2 R xs ys → ∃ l : List A, l.Perm xs ∧ F2 R l zs := by
  induction h with
  | nil => intro xs h; exact ⟨xs, .refl _, h⟩
  | cons b _ ih =>
    intro xs h
    cases h with
    | cons h1 h2 =>
      obtain ⟨l, p, q⟩ := ih h2
      exact ⟨_ :: l, p.cons _, .cons h1 q⟩
  | swap a b l =>
    intro xs h
    cases h with
    | cons h1 h2 =>
      cases h2 with
      | cons h3 h4 => exact ⟨_, .swap .., .cons h3 (.cons h1 h4)⟩
  | trans _ _ ih1 ih2 =>
    intro xs h
    obtain ⟨l, p, q⟩ := ih1 h
    obtain ⟨l2, p2, q2⟩ := ih2 q
    exact ⟨l2, p2.trans p, q2⟩
theorem F2.of_mapM {A B : Type} {f : A → Option B} : ∀ {xs : List A} {ys : List B}, xs.mapM f = some ys → F2 (fun a b => f a = some b) xs ys
  | [], ys, h => by
    simp at h; subst h; exact .nil
  | a :: xs, ys, h => by
    rw [List.mapM_cons] at h
    simp only [bind, Option.bind_eq_some_iff, pure, Option.some.injEq] at h
    obtain ⟨b, h1, bs', h2, rfl⟩ := h
    exact .cons h1 (F2.of_mapM h2)
theorem F2.map {A B E : Type} {R : A → B → Prop} {Q : A → E → Prop} {g : B → E} (h : ∀ a b, R a b → Q a (g b)) : ∀ {xs : List A} {ys : List B}, F2 R xs ys → F2 Q xs (ys.map g)
  | _, _, .nil => .nil
  | _, _, .cons h1 h2 => .cons (h _ _ h1) (F2.map h h2)
theorem int_cells {e : TypeId} {ke : IntKind} {v : Value} {c : Int} (he : Tryd.prog.underlying e = some (.int ke)) (hf : v.formed Tryd.prog e = true) (h : v.cells.toList = [.int ke c]) : v = .int ke c := by
  cases v with
  | agg cs => simp [Value.formed, he] at hf
  | _ => simpa [Value.cells] using h
def rowR (H : Type) (kk ke : IntKind) (x : MapEntry) (y : Lit × DataW H) : Prop := ∃ a c : Int, x.key = .int kk a ∧ y.1 = .int kk a ∧ x.val = .int ke c ∧ y.2 = .lit (.int ke c)
theorem row_entries {H : Type} {enc : TypeId × Value → H} {w : World} {base : Nat} {sp : Nat → Bool} {held : Bool} {fuel : Nat} {k e : TypeId} {t : TypeId} {kk ke : IntKind} {cs : List Value} {dd : List (Lit × DataW H)} {p : List MemPlace}
    (ht : Tryd.prog.underlying t = some (.map k e)) (hk : Tryd.prog.underlying k = some (.int kk)) (he : Tryd.prog.underlying e = some (.int ke))
    (h : DataW.trod enc Tryd.prog w base sp held fuel t cs = some (.map dd, p)) :
    ∃ (b : Nat) (es : Array MapEntry) (clock : Nat), cs = [.map (some b)] ∧ w.heap[b]? = some (.map es clock) ∧ ∃ l : List MapEntry, l.Perm es.toList ∧ F2 (rowR H kk ke) l dd := by
  cases fuel with
  | zero => simp [DataW.trod] at h
  | succ n =>
    unfold DataW.trod at h
    simp only [ht] at h
    split at h
    all_goals first | (cases h; done) | (rename_i e1; cases e1; done) | skip
    all_goals try (simp at h; done)
    all_goals try (rename_i e1 _; cases e1; done)
    rename_i b hX
    injection hX with hX
    injection hX with a1 a2
    subst a1; subst a2
    split at h
    · rename_i es clock hb
      split at h
      · simp only [Option.bind_eq_some_iff] at h
        obtain ⟨entries, h1, h2⟩ := h
        split at h2
        · simp only [Option.some.injEq, Prod.mk.injEq, DataW.map.injEq] at h2
          obtain ⟨rfl, _⟩ := h2
          have f1 := F2.of_mapM h1
          have f2 : F2 (rowR H kk ke) es.toList (entries.map (·.1)) := f1.map fun x y hx => by
            simp only [Option.bind_eq_some_iff] at hx
            obtain ⟨key, g1, g2⟩ := hx
            split at g2
            · rename_i hf
              simp only [Option.map_eq_some_iff] at g2
              obtain ⟨z, g3, rfl⟩ := g2
              obtain ⟨a, e1, e2, _⟩ := Maps.keyOf_int_inv hk g1
              obtain ⟨c, e3, e4, _⟩ := DataW.trod_int he g3
              subst e4
              exact ⟨a, c, e1, e2, int_cells he hf e3, rfl⟩
            cases g2
          obtain ⟨l, hl, hf⟩ := F2.pull (sorted_perm _).symm f2
          exact ⟨b, es, clock, rfl, hb, l, hl, hf⟩
        cases h2
      cases h
    cases h
theorem rows_vr {W : World} {L : Nat → Prop} : ∀ {l : List MapEntry} {es : List (Nat × Nat)}, F2 (rowR Unit .u8 .i64) l (es.map fun e => (Lit.int .u8 (e.1 : Int), DataW.lit (.int .i64 (e.2 : Int)))) → VRs W L [] [] (es.map fun e => D.int .u8 (e.1 : Int)) (l.map (·.key)) ∧ VRs W L [] [] (es.map fun e => D.int .i64 (e.2 : Int)) (l.map (·.val))
  | [], [], _ => ⟨by simp only [List.map_nil, VRs], by simp only [List.map_nil, VRs]⟩
  | [], _ :: _, h => by cases h
  | _ :: _, [], h => by cases h
  | x :: l, e :: es, h => by
    cases h with
    | cons h1 h2 =>
      obtain ⟨a, c, g1, g2, g3, g4⟩ := h1
      injection g2 with _ g2
      injection g4 with g4
      injection g4 with _ g4
      subst g2; subst g4
      obtain ⟨r1, r2⟩ := rows_vr h2
      simp only [List.map_cons, VRs, VR]
      exact ⟨⟨_, _, rfl, g1, r1⟩, ⟨_, _, rfl, g3, r2⟩⟩
theorem table_GR {W : World} {n : String} {g : Nat} {cs : Array Value} {ds : List D} (hg : Tryd.prog.globalNamed n = some g) (hv : W.var? Tryd.prog n = some cs) (hne : ds ≠ []) (hd : valsD ds = some cs.toList) :
    g < W.heap.size ∧ GR W (fun _ => False) g ds := by
  have hcell : ∀ (j : Nat) (v : Value), cs.toList[j]? = some v → W.cell? ⟨g, 0 + j, none⟩ = some v := fun j v hj => by
    rw [Nat.zero_add, World.var?_cell hg hv j]
    simpa using hj
  have hlen : ∀ {ds : List D} {vs : List Value}, valsD ds = some vs → vs.length = ds.length := by
    intro ds
    induction ds with
    | nil => intro vs h; simp only [valsD] at h; injection h with h; subst h; rfl
    | cons d ds ih =>
      intro vs h
      simp only [valsD] at h
      split at h
      · rename_i h1 h2
        injection h with h; subst h
        rw [List.length_cons, List.length_cons, ih h2]
      cases h
  have hb : ∃ e fz, W.heap[g]? = some (.cells cs e fz) := by
    unfold World.var? at hv
    rw [hg, Option.bind_some] at hv
    split at hv
    · rename_i h; injection hv with hv; subst hv; exact ⟨_, _, h⟩
    cases hv
  obtain ⟨e, fz, hb⟩ := hb
  refine ⟨?_, VRL_vals hd hcell, cs, e, fz, hb, ?_⟩
  · apply Classical.byContradiction
    intro hn
    have : W.heap[g]? = none := by rw [Array.getElem?_eq_none_iff]; omega
    rw [this] at hb; cases hb
  have := hlen hd; simpa using this
def Laid3 (W : World) : Prop := ∀ (g : Nat) (cs : List D), (g, cs) ∈ Cg.gl → g < W.heap.size ∧ GR W (fun _ => False) g cs
theorem tables_laid {W : World} (h : laidMetH Tryd.prog Rows.scanSetsRow.laid W) : Laid3 W := by
  rw [MakeChecks.laidMetH_plain _ _ _ (by kernel_rfl)] at h
  obtain ⟨ps, ⟨g0, t0, cs0, f0, p0, q0, hg0, ht0, hv0, hd0, ⟨g1, t1, cs1, f1, p1, q1, hg1, ht1, hv1, hd1, ⟨g2, t2, cs2, f2, p2, q2, hg2, ht2, hv2, hd2, ⟨g3, t3, cs3, f3, p3, q3, hg3, ht3, hv3, hd3, ⟨g4, t4, cs4, f4, p4, q4, hg4, ht4, hv4, hd4, _, _⟩, _⟩, _⟩, _⟩, _⟩, _, _⟩ := h
  have e2 : Tryd.prog.globalNamed "internal/strconv.uint64pow10" = some 3 := by kernel_rfl
  have e3 : Tryd.prog.globalNamed "soroban/scanspec.rows" = some 0 := by kernel_rfl
  have e4 : Tryd.prog.globalNamed "soroban/scanspec.lengths" = some 1 := by kernel_rfl
  have y2 : (Tryd.prog.globals[3]?).map (·.type) = some 123 := by kernel_rfl
  have y3 : (Tryd.prog.globals[0]?).map (·.type) = some 95 := by kernel_rfl
  have y4 : (Tryd.prog.globals[1]?).map (·.type) = some 99 := by kernel_rfl
  obtain rfl := Option.some.inj (e2.symm.trans hg2)
  obtain rfl := Option.some.inj (e3.symm.trans hg3)
  obtain rfl := Option.some.inj (e4.symm.trans hg4)
  obtain rfl := Option.some.inj (y2.symm.trans ht2)
  obtain rfl := Option.some.inj (y3.symm.trans ht3)
  obtain rfl := Option.some.inj (y4.symm.trans ht4)
  have k2 := flat_ok 4 f2 123 cs2.toList _ (by kernel_rfl) hd2
  have k4 := flat_ok 4 f4 99 cs4.toList _ (by kernel_rfl) hd4
  have v2 : valsD powCells = flatV (Rows.laid_internal_strconv_uint64pow10 (H := Unit)) := by rfl
  have v4 : valsD lensA = flatV (Rows.laid_soroban_scanspec_lengths (H := Unit)) := by rfl
  have n2 : powCells ≠ [] := by intro h; cases h
  have n4 : lensA ≠ [] := by intro h; cases h
  have r2 := table_GR e2 hv2 n2 (v2.trans k2)
  have r4 := table_GR e4 hv4 n4 (v4.trans k4)
  obtain ⟨b, es, clock, c1, c2, l, c3, c4⟩ := row_entries (kk := .u8) (ke := .i64) Tryd.underlying95 Tryd.underlying5 Tryd.underlying3 hd3
  obtain ⟨m1, m2⟩ := rows_vr (W := W) (L := fun _ => False) (es := rowEs) c4
  have hb : ∃ e fz, W.heap[0]? = some (.cells cs3 e fz) := by
    unfold World.var? at hv3
    rw [e3, Option.bind_some] at hv3
    split at hv3
    · rename_i h; injection hv3 with hv3; subst hv3; exact ⟨_, _, h⟩
    cases hv3
  obtain ⟨e, fz, hb⟩ := hb
  have lt : ∀ {i : Nat} {o : Obj}, W.heap[i]? = some o → i < W.heap.size := fun {i o} hi => by
    apply Classical.byContradiction
    intro hn
    have : W.heap[i]? = none := by rw [Array.getElem?_eq_none_iff]; omega
    rw [this] at hi; cases hi
  have hc0 : W.cell? ⟨0, 0, none⟩ = some (.map (some b)) := by
    rw [World.var?_cell e3 hv3 0, ← Array.getElem?_toList, c1]; rfl
  intro g cs hg
  have hg : (g, cs) ∈ [(0, [D.mapv rowKs rowVs]), (1, lensA), (3, powCells)] := hg
  simp only [List.mem_cons, List.not_mem_nil, or_false, Prod.mk.injEq] at hg
  rcases hg with ⟨rfl, rfl⟩ | ⟨rfl, rfl⟩ | ⟨rfl, rfl⟩
  · refine ⟨lt hb, ?_, cs3, e, fz, hb, by have := congrArg List.length c1; simpa using this⟩
    simp only [VRL]
    refine ⟨⟨.map (some b), hc0, rfl, ?_⟩, trivial⟩
    simp only [VR]
    exact ⟨b, es, clock, rfl, lt c2, fun h => h, c2, l, c3, m1, m2⟩
  · exact r4
  exact r2
theorem SRg {W : World} (h : Laid3 W) : SR Cg (fun _ => False) W [] [] :=
  ⟨rfl, fun i o b h => by simp at h, fun i j oi oj b h => by simp at h, fun i o b h => by simp at h, fun b h => h.elim, fun g cs hg => by
    rw [forb0]
    exact ⟨(h g cs hg).1, fun h => h, (h g cs hg).2⟩⟩
theorem law_callsG {f : FuncId} {ds : List D} {W : World} {vs : List Value} (hl : Laid3 W) (hc : PC Cg f ds (fun o => o = .ret (.bool true))) (hv : VRs W (fun _ => False) [] [] ds vs) : Calls Tryd.prog f vs.toArray W fun e W' => e = .returned (.bool true) ∧ Below W.heap.size W W' := by
  have h := (hc []).2 (fun _ => False) W [] vs (SRg hl) (by rw [forb0]; exact hv)
  refine h.mono ?_
  rintro e W' ⟨o, H', μ', ⟨rfl, rfl⟩, _, ⟨v, he, hv'⟩, hevo⟩
  simp only [VR] at hv'
  subst hv'
  exact ⟨he, hevo.os, hevo.tape, hevo.output, hevo.size, fun k hk => hevo.chg k hk fun ⟨i, o, h, _⟩ => by simp at h⟩
end Go.V
