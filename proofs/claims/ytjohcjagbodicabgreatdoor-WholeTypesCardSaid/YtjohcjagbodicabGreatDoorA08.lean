/- A part of the proof: abstract values, rules for the steps of the program's form, and contracts of its functions, each proved; no condition. -/
import Derived.Test.YtjohcjagbodicabGreatDoorA07
import Derived.Laws.BytesString
import Derived.Recover
set_option linter.unusedVariables false
set_option linter.unusedSimpArgs false
/- STRINGS: slices of them; bytes as a string. -/
namespace Go.V
open Go.RowKit
section
variable {C : Ctx} {env : List D} {H H' : Heap} {dst : Option Tmp} {ty : TypeId} {pos : String} {aft : Array Edge} {gd : Option (Nat × Bool)} {x y z : Operand} {d : D} {T e : TypeId} {te : TE}
theorem Zlg {s : ByteArray} {lo hi : Nat} {ol oh : Option Operand} (ht : UN C T .string) (hx : evO C env x = some (.str s)) (hlo : bndO C env 0 ol = some lo) (hhi : bndO C env s.size oh = some hi) (hl : lo ≤ hi) (hh : hi ≤ s.size) :
    OpQ C ⟨dst, .slice T x ol oh none, ty, pos, aft, gd⟩ env H (.str (s.extract lo hi)) :=
  OpQ.of_run fun L w μ a he => by
    have ex := he _ _ hx
    simp only [VR] at ex
    refine ⟨_, ?_, by simp only [VR]; rfl⟩
    have key : (Instr.sliceAt T (.string s) (ol.map a.eval) (oh.map a.eval) none).run C.P w = .ok (.string (s.extract lo hi)) w := by
      rw [run_sliceAt_string _ _ _ _ _ _ ht]
      cases ol with
      | none =>
        simp only [bndO] at hlo
        injection hlo with hlo
        subst hlo
        cases oh with
        | none =>
          simp only [bndO] at hhi
          injection hhi with hhi
          subst hhi
          simp only [Option.map_none]
          exact Go.run_slice_string_all _ _ _ ht
        | some q =>
          simp only [bndO] at hhi
          split at hhi
          · rename_i ik i hq
            split at hhi
            · rename_i h0
              injection hhi with hhi
              have eq := he _ _ hq
              simp only [VR] at eq
              simp only [Option.map_none, Option.map_some, eq]
              rw [run_slice_string_h _ _ _ ht ik i h0 (by omega), hhi]
            cases hhi
          cases hhi
      | some p =>
        simp only [bndO] at hlo
        split at hlo
        · rename_i ik i hp
          split at hlo
          · rename_i h0
            injection hlo with hlo
            have ep := he _ _ hp
            simp only [VR] at ep
            cases oh with
            | none =>
              simp only [bndO] at hhi
              injection hhi with hhi
              subst hhi
              simp only [Option.map_none, Option.map_some, ep]
              rw [run_slice_string_l _ _ _ ht ik i h0 (by omega), hlo]
            | some q =>
              simp only [bndO] at hhi
              split at hhi
              · rename_i ik' i' hq
                split at hhi
                · rename_i h0'
                  injection hhi with hhi
                  have eq := he _ _ hq
                  simp only [VR] at eq
                  simp only [Option.map_some, ep, eq]
                  rw [run_slice_string _ _ _ ik ik' i i' ht h0 (by omega) (by omega), hlo, hhi]
                cases hhi
              cases hhi
          cases hlo
        cases hlo
    simp only [execOp, ex, Sem.run_bind, Option.map_none, key, Result.andThen_ok, Sem.run_pure]
theorem Zh2 {s : ByteArray} {lo hi S b : Nat} {ol oh : Option Operand} {zv : Value} (ht : C.ty T = some ⟨.str, S, b, zv⟩) (hx : evO C env x = some (.str s)) (hlo : bndO C env 0 ol = some lo) (hhi : bndO C env s.size oh = some hi) (hl : lo ≤ hi) (hh : hi ≤ s.size) :
    OpQ C ⟨dst, .slice T x ol oh none, ty, pos, aft, gd⟩ env H (.str (s.extract lo hi)) := Zlg (ty_str ht) hx hlo hhi hl hh
def bytesOf (l : List Nat) : ByteArray := ⟨(l.map UInt8.ofNat).toArray⟩
theorem foldl_push : ∀ (l : List Nat) (s : ByteArray), ((l.map fun (n : Nat) => (n : Int)).foldl (fun r n => r.push (UInt8.ofNat n.toNat)) s) = s ++ bytesOf l
  | [], s => by
    apply ByteArray.ext
    simp [bytesOf]
  | n :: l, s => by
    simp only [List.map_cons, List.foldl_cons]
    rw [foldl_push l]
    apply ByteArray.ext
    simp [bytesOf]
theorem Zlh {n S b S' b' : Nat} {l : List Nat} {src : TypeId} {zv zv' : Value} {dv : D} (hs : C.ty src = some ⟨.slice e, S, b, zv⟩) (he8 : C.P.underlying e = some (.int .u8)) (ht : C.ty T = some ⟨.str, S', b', zv'⟩) (hx : evO C env x = some dv) (hv : srcD H dv = some (n, nts .u8 l)) (hl : l.length = n) :
    OpQ C ⟨dst, .convert src T x, ty, pos, aft, gd⟩ env H (.str (bytesOf l)) :=
  OpQ.of_runS fun L0 w μ a hsr he => by
    have ex := he _ _ hx
    obtain ⟨ay, cap, ex, hmc, hnews⟩ := srcD_ok hsr hv ex
    refine ⟨.string (bytesOf l), ?_, by simp only [VR]⟩
    have hconv := run_convert_bytes_string (P := C.P) w src T e ay n cap (ty_slice hs) he8 (ty_str ht)
    simp only [execOp, ex, Sem.run_bind, hconv]
    cases l with
    | nil =>
      simp only [List.length_nil] at hl
      subst hl
      cases ay with
      | none => simp [Conv.bytesToString, bytesOf]; rfl
      | some ad =>
        have hlc : (loadCells ad 0).run C.P w = .ok ((([] : List Int).map (Value.int .u8)).toArray) w := by
          obtain ⟨us, r1, r2⟩ := run_load_row (P := C.P) (w := w) (L := forb L0 μ H) (μ := μ) (H := H) (ad := ad) (cs := []) (fun j d' hd' => by simp at hd')
          simp only [VRs] at r2
          subst r2
          exact r1
        rw [run_bytesToString w ad 0 cap [] hlc]
        rfl
    | cons c cs =>
      obtain ⟨ad, rfl, vs, hvl, hvr, hvc, _⟩ := hnews (by simp [nts])
      have hlc : (loadCells ad n).run C.P w = .ok ((((c :: cs).map fun (n : Nat) => (n : Int)).map (Value.int .u8)).toArray) w := by
        obtain ⟨us, r1, r2⟩ := run_load_row (P := C.P) (w := w) (L := forb L0 μ H) (μ := μ) (H := H) (ad := ad) (cs := nts .u8 (c :: cs)) (fun j d' hd' => by
          obtain ⟨v, k1, k2⟩ := VRs_get hvr hd'
          exact ⟨v, hvc j v k1, k2⟩)
        have hus : us = ((c :: cs).map fun (n : Nat) => (n : Int)).map (Value.int .u8) := by
          have key : ∀ (xs : List Nat) (vs : List Value), VRs w (forb L0 μ H) μ H (nts .u8 xs) vs → vs = (xs.map fun (n : Nat) => (n : Int)).map (Value.int .u8) := by
            intro xs
            induction xs with
            | nil => intro vs h; simpa [nts, VRs] using h
            | cons x xs ih =>
              intro vs h
              simp only [nts, List.map_cons, VRs] at h
              obtain ⟨v, us, rfl, h1, h2⟩ := h
              simp only [VR] at h1
              subst h1
              rw [ih us h2]
              simp
          exact key _ _ r2
        rw [hus] at r1
        have hlen : (nts .u8 (c :: cs)).length = n := by simpa [nts] using hl
        rw [hlen] at r1
        exact r1
      rw [run_bytesToString w ad n cap _ hlc, foldl_push]
      have h0 : ByteArray.empty ++ bytesOf (c :: cs) = bytesOf (c :: cs) := by
        apply ByteArray.ext
        simp
      rw [h0]
      rfl
end
end Go.V
/- Rounds as a printed proof uses them. -/
namespace Go.V
open Go.RowKit
section
variable {C : Ctx} {Q : Post} {ops : Array Oper} {rest : List Oper} {k : List Item} {env : List D} {H H' : Heap} {df : List ADef} {id : Nat} {ps : Array Tmp} {asg bd : Code} {envL : List D}
variable {dst : Option Tmp} {ty : TypeId} {pos : String} {aft : Array Edge} {gd : Option (Nat × Bool)} {x : Operand}
theorem ARun.hp (h : H = H') (hk : ARun C Q k env H' df) : ARun C Q k env H df := h ▸ hk
theorem ARun.env0 {env' : List D} (h : env = env') (hk : ARun C Q k env' H df) : ARun C Q k env H df := h ▸ hk
theorem AOps.hp (h : H = H') (hk : AOps C Q ops rest k env H' df) : AOps C Q ops rest k env H df := h ▸ hk
theorem ARun.beginRoundI (hq : Q.rd = some id) (ho : H[id]? = some (loopO .ready ps asg bd envL)) [hp : PutL H id (loopO .busy ps asg bd envL) H'] (h : ARun C Q k env H' df) : ARun C Q (.beginRound :: k) env H df :=
  ARun.beginRound hq ho (by rw [hp.eq]; exact h)
theorem AOps.yieldI {ds envR e1 e2 : List D} {args : List Operand} {tys : Array TypeId} {ps : List Tmp} (K : Option Code → Heap → Prop) [h1 : Put env dst (.bool true) e1] [h2 : Put env dst (.bool false) e2] (hg : gOk ops.toList env gd = some true) (hx : evO C env x = some (.yld id)) (ha : evOs C env args = some ds) (ho : H[id]? = some (loopO .ready ps.toArray asg bd envL)) (hl : ds.length = ps.length) (hR : setL envL (ps.zip ds) = envR)
    (hb : ARun C (QRound id K) [.code asg, .beginRound, .code bd] envR H []) (hbusy : ∀ j H', K j H' → H'[id]? = some (loopO .busy ps.toArray asg bd envL))
    (hk : ∀ H', K none H' → AOps C Q ops rest k e1 (H'.set id (loopO .ready ps.toArray asg bd envL)) df)
    (hst : ∀ c H', K (some c) H' → AOps C Q ops rest k e2 (H'.set id (loopO (.done c) ps.toArray asg bd envL)) df) :
    AOps C Q ops (⟨dst, .call ⟨.value x, args.toArray, tys⟩, ty, pos, aft, gd⟩ :: rest) k env H df :=
  AOps.yield K hg hx ha ho hl hR hb hbusy (by rw [h1.eq]; exact hk) (by rw [h2.eq]; exact hst)
theorem y_gop {o : Oper} {d : D} {g : Prop} {KP : D → Prop} {env' : List D} (hg : gOk ops.toList env o.guard = some true) (h : OpG C o env H d g KP) [hp : Put env o.dst d env'] (hk : g → AOps C Q ops rest k env' H df) (hpan : ∀ p, KP p → Q (.pan p) env H df) : AOps C Q ops (o :: rest) k env H df :=
  AOps.opH hg h (fun d' H1 ⟨h1, h2, h3⟩ => by subst h2; subst h3; rw [hp.eq]; exact hk h1) (fun d' H1 ⟨h1, h2⟩ => by subst h2; exact hpan _ h1)
end
theorem PC.gp {C : Ctx} {f : FuncId} {args : List D} {g h : Prop} {d p : D} (hc : PC C f args (fun o => (g ∧ o = .ret d) ∨ (h ∧ o = .pan p))) : PC C f args (fun o => (g ∧ o = .ret d) ∨ ∃ q, (h ∧ q = p) ∧ o = .pan q) :=
  hc.mono fun o ho => by
    rcases ho with ho | ⟨h1, h2⟩
    · exact .inl ho
    exact .inr ⟨p, ⟨h1, rfl⟩, h2⟩
theorem DC.mono {C : Ctx} {f : FuncId} {H : Heap} {args : List D} {m : AMode} {R R' : AMode → Heap → Prop} (h : DC C f H args m R) (hr : ∀ m' H', R m' H' → R' m' H') : DC C f H args m R' := by
  refine ⟨h.1, fun L0 w μ vs u hs ha hu c cs hc => ?_⟩
  obtain ⟨e, u', w', fr, ⟨v, m', H', μ', h1, h2, h3⟩, h4⟩ := h.2 L0 w μ vs u hs ha hu c cs hc
  exact ⟨e, u', w', fr, ⟨v, m', H', μ', h1, hr _ _ h2, h3⟩, h4⟩
section
variable {C : Ctx} {env : List D} {H : Heap} {p : Tmp} {T : TypeId} {i off : Nat} {o : AObj} {d : D} {rs : List ResultVar} {ds : List D} {te : TE}
theorem ResR.cell1 (h1 : env[p]? = some (.ptr i off)) (ht : C.ty T = some te) (ha : aggK te.k = false) (ho : H[i]? = some (some o)) (hd : o.cells[off]? = some d) (r : ResR C env H rs ds) : ResR C env H (.cell p T :: rs) (d :: ds) :=
  .one h1 (ty_tic ht).1 ((ty_tic ht).2.trans ha) ho hd r
theorem ResR.cellA {cs : List D} (h1 : env[p]? = some (.ptr i off)) (ht : C.ty T = some te) (ha : aggK te.k = true) (ho : H[i]? = some (some o)) (hd : (o.cells.drop off).take te.size = cs) (hl : cs.length = te.size) (r : ResR C env H rs ds) : ResR C env H (.cell p T :: rs) (.agg cs :: ds) :=
  .agg h1 (ty_tic ht).1 ((ty_tic ht).2.trans ha) ho hd hl r
end
end Go.V
set_option synthInstance.maxSize 100000
set_option synthInstance.maxHeartbeats 2000000
namespace Go.V
open Go.RowKit Go.Proofs
theorem Zkt (o0 o1 : Option AObj) (xs : List Nat) : HC C Zbb [o0, o1] [sln .u32 xs] (fun o H' => o = .ret (.clos Zaq [.ptr 2 0]) ∧ H' = [o0, o1, some ⟨[sln .u32 xs], Zci, 1, true, none⟩]) := by
  refine HC.run Zat Za4 rfl Za5 (rs := [.tmp 2]) (by rw [Za6]) (by simp only [List.length_cons, List.length_nil, Nat.reduceAdd, Nat.reduceSub, List.replicate_succ, List.replicate_zero, List.cons_append, List.nil_append]; exact rfl) ?_
  refine ARun.seq (ARun.region ?_)
  refine y_new rfl (n_box rfl rfl rfl) ?_
  refine zza ?_; refine AOps.nil (ARun.seq (ARun.region ?_))
  refine y_op rfl (ZiR rfl) ?_
  refine zza ?_; refine AOps.nil ?_
  refine ARun.ret ?_
  refine ⟨_, _, _, .tmp rfl .nil, .cons (.same _) .nil, ?_⟩
  exact ⟨rfl, rfl⟩
abbrev HB (xs : List Nat) (ps : Array Tmp) (asg bd : Code) (envL : List D) (o0 o1 : Option AObj) (st : LSt) : Heap := [o0, o1, some ⟨[sln .u32 xs], Zci, 1, true, none⟩, defsO, loopO st ps asg bd envL]
theorem ZiV (xs : List Nat) (hlen : xs.length ≤ 1099511627776) (ps : List Tmp) (hps : ps.length = 2) (asg bd : Code) (envL : List D) (o0 o1 : Option AObj) (W : Nat → Prop) (S : Option AObj → Prop)
    (hround : ∀ i : Nat, i < xs.length → W (i + 1) → ARun C (QRound 4 (fun j H' => match j with
      | none => W i ∧ H' = HB xs ps.toArray asg bd envL o0 o1 .busy
      | some c => c = .ret ∧ ∃ o, S o ∧ H' = HB xs ps.toArray asg bd envL o0 o .busy)) [.code asg, .beginRound, .code bd] (setL envL (ps.zip [.int .i64 (i : Int), .int .u32 (xs.getD i 0 : Nat)])) (HB xs ps.toArray asg bd envL o0 o1 .ready) [])
    (h0 : W xs.length) :
    HC C Zaq (HB xs ps.toArray asg bd envL o0 o1 .ready) [.yld 4, .ptr 2 0] (fun o H' => o = .ret (.tup []) ∧ ((W 0 ∧ H' = HB xs ps.toArray asg bd envL o0 o1 .ready) ∨ ∃ o, S o ∧ H' = HB xs ps.toArray asg bd envL o0 o (.done .ret))) := by
  refine HC.run Zao ZaS rfl ZaT (rs := []) (by rw [ZaU]) (by simp only [List.length_cons, List.length_nil, Nat.reduceAdd, Nat.reduceSub, List.replicate_succ, List.replicate_zero, List.cons_append, List.nil_append]; exact rfl) ?_
  refine ARun.seq (ARun.region ?_)
  refine y_op rfl (Zac rfl rfl rfl rfl rfl) ?_
  refine zzN ?_
  refine y_op rfl (q_sub rfl rfl (IntWalk.i64_in _ (by omega))) ?_
  refine zza ?_; refine AOps.nil (ARun.block ?_)
  refine ARun.loopI (S := Nat) (fun i : Nat => [(7, .any), (8, .any), (9, .any), (10, .any), (11, .any), (12, .any), (13, .any), (14, .any), (15, .any), (16, .any), (17, .any), (18, .any), (3, .int .i64 ((i : Int) - 1))]) (fun i : Nat => HB xs ps.toArray asg bd envL o0 o1 .ready) (fun i : Nat => i ≤ xs.length ∧ W i) (fun i : Nat => i) (xs.length) ?_ ?_ ?_ ?_
  · exact ⟨Nat.le_refl _, h0⟩
  · (repeat' first | exact envLe_nil | apply envLe_any | apply envLe_same)
  · rfl
  rintro i hinv ih
  obtain ⟨hi, hw⟩ := hinv
  refine ARun.seq (ARun.seq (ARun.region ?_)); refine zzm ?_; refine zzi ?_; refine AOps.nil ?_
  refine ARun.cond rfl (fun h => ?_) (fun h => ?_)
  · skip
    replace h := of_decide_eq_true h
    obtain ⟨j, rfl⟩ : ∃ j, i = j + 1 := ⟨i - 1, by omega⟩
    have e3 : ((j + 1 : Nat) : Int) - 1 = (j : Int) := by omega
    rw [e3]
    have hj : j < xs.length := by omega
    refine ARun.skip (ARun.seq (ARun.block (ARun.seq (ARun.region ?_)))); refine zzm ?_; refine zzm ?_
    refine y_op rfl (Zac rfl rfl rfl rfl rfl) ?_
    refine zzm ?_
    refine y_op rfl (Zag (i := j) rfl rfl rfl rfl (by omega) (by omega) (nts_ne (by omega)) (drop_nat rfl)) ?_
    refine y_op rfl (q_load rfl rfl rfl (nts_load hj)) ?_
    refine AOps.yieldI _ rfl rfl rfl rfl (by rw [hps]; rfl) rfl (hround j hj hw) ?_ ?_ ?_
    · intro q H' hq
      cases q with
      | none => obtain ⟨_, rfl⟩ := hq; rfl
      | some c => obtain ⟨_, o, _, rfl⟩ := hq; rfl
    · skip
      rintro _ ⟨hW, rfl⟩
      refine AOps.hp (H' := HB xs ps.toArray asg bd envL o0 o1 .ready) rfl ?_
      refine zzn ?_; refine AOps.nil ?_
      refine ARun.condF rfl ?_
      refine ARun.skip (ARun.inBlock (ARun.region ?_)); refine zzm ?_
      refine y_op rfl (q_sub rfl rfl (IntWalk.i64_in _ (by omega))) ?_
      refine zza ?_; refine AOps.nil ?_
      refine ARun.again (ih ((j)) ?_ ?_) ?_ ?_
      · exact ⟨by omega, hW⟩
      · exact Nat.lt_succ_self _
      · (repeat' first | exact envLe_nil | apply envLe_any | apply envLe_same)
      rfl
    rintro c _ ⟨rfl, o, hS, rfl⟩
    refine AOps.hp (H' := HB xs ps.toArray asg bd envL o0 o (.done .ret)) rfl ?_
    refine zzn ?_; refine AOps.nil ?_
    refine ARun.condT rfl ?_
    refine ARun.ret ?_
    refine ⟨_, _, _, .nil, .nil, ?_⟩
    exact ⟨rfl, .inr ⟨o, hS, rfl⟩⟩
  replace h := of_decide_eq_false h
  have hz : i = 0 := by omega
  subst hz
  refine ARun.exit rfl ?_
  refine ARun.nil ?_
  refine ⟨_, _, _, .nil, .nil, ?_⟩
  exact ⟨rfl, .inl ⟨hw, rfl⟩⟩
end Go.V
set_option synthInstance.maxSize 100000
set_option synthInstance.maxHeartbeats 2000000
namespace Go.V
open Go.RowKit Go.Proofs
theorem div_step (a i : Nat) : a / B ^ i = a / B ^ (i + 1) * B + dig a i := by
  rw [dig, Nat.pow_succ, ← Nat.div_div_eq_div_mul]
  have := Nat.div_add_mod (a / B ^ i) B
  rw [Nat.mul_comm] at this
  exact this.symm
theorem div_lt_of {a b k : Nat} (h : a / k < b / k) : a < b := by
  rcases Nat.lt_or_ge a b with h1 | h1
  · exact h1
  exact absurd (Nat.div_le_div_right (c := k) h1) (by omega)
theorem ln_lt_of {a b : Nat} (h : (lim a).length < (lim b).length) : a < b := by
  rcases Nat.lt_or_ge a b with h1 | h1
  · exact h1
  exact absurd (ln_mono h1) (by omega)
theorem cmpI_lo {a b : Nat} (h : a < b) : cmpI a b = -1 := by unfold cmpI; rw [if_pos h]
theorem cmpI_hi {a b : Nat} (h : b < a) : cmpI a b = 1 := by unfold cmpI; rw [if_neg (by omega), if_neg (by omega)]
theorem cmpI_eq {a b : Nat} (h : a = b) : cmpI a b = 0 := by unfold cmpI; rw [if_neg (by omega), if_pos h]
theorem ZeY : CmpOK := by
  intro a b hA hB
  refine PC.rn ZcD ZfP ZfQ (rs := [.cell 4 3]) (by rw [ZfR]) ?_
  refine ARun.seq (ARun.region ?_)
  refine y_new rfl (n_box rfl rfl rfl) ?_
  refine y_new rfl (Zae rfl rfl rfl rfl) ?_
  refine AOps.nil (ARun.seq (ARun.block (ARun.seq (ARun.region ?_)))); refine zzm ?_; refine zzN ?_
  refine y_op rfl (Zac rfl rfl rfl rfl rfl) ?_
  refine zzN ?_; refine zzi ?_; refine zza ?_; refine AOps.nil ?_
  refine ARun.ite rfl (fun h1 => ?_) (fun h1 => ?_)
  · skip
    refine ARun.seq (ARun.region ?_)
    refine y_new rfl (Zad rfl rfl rfl rfl rfl rfl (Nat.le_of_ble_eq_true rfl) rfl) ?_
    refine AOps.nil ?_
    refine ARun.ret ?_
    refine ⟨_, _, _, ResR.cell1 rfl rfl rfl rfl rfl .nil, .cons (.same _) .nil, rfl, ?_⟩
    rw [cmpI_lo (ln_lt_of (by omega))]
    rfl
  refine ARun.seq (ARun.region ?_); refine zzm ?_; refine zzN ?_
  refine y_op rfl (Zac rfl rfl rfl rfl rfl) ?_
  refine zzN ?_; refine zzi ?_; refine zza ?_; refine AOps.nil ?_
  refine ARun.ite rfl (fun h2 => ?_) (fun h2 => ?_)
  · skip
    refine ARun.seq (ARun.region ?_)
    refine y_new rfl (Zad rfl rfl rfl rfl rfl rfl (Nat.le_of_ble_eq_true rfl) rfl) ?_
    refine AOps.nil ?_
    refine ARun.ret ?_
    refine ⟨_, _, _, ResR.cell1 rfl rfl rfl rfl rfl .nil, .cons (.same _) .nil, rfl, ?_⟩
    rw [cmpI_hi (ln_lt_of (by omega))]
    rfl
  have hl : (lim a).length = (lim b).length := by omega
  refine ARun.skip (ARun.inBlock (ARun.seq (ARun.seq (ARun.region ?_)))); refine zzm ?_
  refine Zau rfl rfl rfl rfl (Zkt _ _ (lim a)) ?_ (by rintro _ _ ⟨h, _⟩; cases h)
  rintro _ _ ⟨h, rfl⟩
  injection h with h
  subst h
  refine AOps.nil (ARun.block ?_)
  refine ARun.rangeFn (n := 3) rfl rfl rfl (ZiV (lim a) hA [21, 22] rfl _ _ _ _ _ (fun i => a / B ^ i = b / B ^ i) (fun o => o = some ⟨[.int .i64 (cmpI a b)], t_int, 1, true, none⟩) (fun i hi hw => ?_) ?_) ?_ ?_
  · refine ARun.env0 (by simp only [setL, List.zip_cons_cons, List.zip_nil_right, List.set_cons_succ, List.set_cons_zero]; exact rfl) ?_
    have hib : i < (lim b).length := by omega
    have ea := div_step a i
    have eb := div_step b i
    rw [lim_get]
    refine ARun.seq (ARun.region ?_); refine zza ?_; refine AOps.nil (ARun.region ?_); refine zza ?_; refine AOps.nil ?_
    refine ARun.beginRoundI rfl rfl ?_
    refine ARun.block (ARun.block (ARun.seq (ARun.region ?_))); refine zzm ?_
    refine y_op rfl (Zac rfl rfl rfl rfl rfl) ?_
    refine zzm ?_
    refine y_op rfl (Zag (i := i) rfl rfl rfl rfl (by omega) (by omega) (nts_ne (by omega)) (drop_nat rfl)) ?_
    refine y_op rfl (q_load rfl rfl rfl (lim_load hib)) ?_
    refine zzi ?_; refine zza ?_; refine AOps.nil ?_
    refine ARun.ite rfl (fun h3 => ?_) (fun h3 => ?_)
    · skip
      refine ARun.seq (ARun.region ?_)
      refine y_new rfl (Zad rfl rfl rfl rfl rfl rfl (Nat.le_of_ble_eq_true rfl) rfl) ?_
      refine AOps.nil ?_
      refine ARun.ret ⟨rfl, rfl, _, rfl, ?_⟩
      have hlt : a < b := div_lt_of (k := B ^ i) (by rw [ea, eb, hw]; omega)
      rw [cmpI_lo hlt]; rfl
    refine ARun.seq (ARun.region ?_); refine zzm ?_
    refine y_op rfl (Zac rfl rfl rfl rfl rfl) ?_
    refine zzm ?_
    refine y_op rfl (Zag (i := i) rfl rfl rfl rfl (by omega) (by omega) (nts_ne (by omega)) (drop_nat rfl)) ?_
    refine y_op rfl (q_load rfl rfl rfl (lim_load hib)) ?_
    refine zzi ?_; refine zza ?_; refine AOps.nil ?_
    refine ARun.ite rfl (fun h4 => ?_) (fun h4 => ?_)
    · skip
      refine ARun.seq (ARun.region ?_)
      refine y_new rfl (Zad rfl rfl rfl rfl rfl rfl (Nat.le_of_ble_eq_true rfl) rfl) ?_
      refine AOps.nil ?_
      refine ARun.ret ⟨rfl, rfl, _, rfl, ?_⟩
      have hlt : b < a := div_lt_of (k := B ^ i) (by rw [ea, eb, hw]; omega)
      rw [cmpI_hi hlt]; rfl
    refine ARun.skip (ARun.inBlock (ARun.inBlock ?_))
    refine ARun.nil ⟨rfl, ?_, rfl⟩
    have : dig a i = dig b i := by omega
    rw [ea, eb, hw, this]
  · have e1 := Nat.div_eq_of_lt (ln_lt a)
    have e2 := Nat.div_eq_of_lt (ln_lt b)
    rw [← hl] at e2
    rw [e1, e2]
  · rintro d H2 ⟨h, hh⟩
    injection h with h
    subst h
    rcases hh with ⟨hw, rfl⟩ | ⟨o, rfl, rfl⟩
    · refine ⟨.ready, rfl, ?_⟩
      rw [Nat.pow_zero, Nat.div_one, Nat.div_one] at hw
      rw [cmpI_eq hw]
      refine ARun.hp (H' := [some ⟨[numD b], Zci, 1, true, none⟩, some ⟨[.int .i64 0], t_int, 1, true, none⟩, some ⟨[numD a], Zci, 1, true, none⟩, defsO, none]) rfl ?_
      refine ARun.inBlock (ARun.seq (ARun.region ?_))
      refine y_new rfl (Zad rfl rfl rfl rfl rfl rfl (Nat.le_of_ble_eq_true rfl) rfl) ?_
      refine AOps.nil ?_
      refine ARun.ret ?_
      exact ⟨⟨_, rfl, rfl, rfl⟩, _, _, _, ResR.cell1 rfl rfl rfl rfl rfl .nil, .cons (.same _) .nil, rfl, rfl⟩
    refine ⟨.done .ret, rfl, ?_⟩
    refine ARun.ret ?_
    exact ⟨⟨_, rfl, rfl, rfl⟩, _, _, _, ResR.cell1 rfl rfl rfl rfl rfl .nil, .cons (.same _) .nil, rfl, rfl⟩
  rintro d H2 ⟨h, _⟩
  cases h
end Go.V
set_option synthInstance.maxSize 100000
set_option synthInstance.maxHeartbeats 2000000
namespace Go.V
open Go.RowKit Go.Proofs
instance okNatDec (xs : List Nat) : Decidable (okNat xs) := decidable_of_iff _ okNat_iff.symm
def okB (xs : List Nat) : Bool := decide (okNat xs)
theorem okB_iff {xs : List Nat} : okB xs = true ↔ okNat xs := by unfold okB; exact decide_eq_true_iff
def numOf : D → Nat
  | .int _ n => n.toNat
  | _ => 0
def badD : D → Bool
  | .sl _ cs => !okB (cs.map numOf)
  | _ => false
theorem numOf_nts (xs : List Nat) : (nts .u32 xs).map numOf = xs := by
  induction xs with
  | nil => rfl
  | cons x xs ih =>
    simp only [nts, List.map_cons] at ih ⊢
    rw [ih]
    simp [numOf]
theorem badD_sln (xs : List Nat) : badD (sln .u32 xs) = !okB xs := by
  simp only [badD]
  rw [numOf_nts]
theorem ZhQ (xs : List Nat) : PC C Zen [sln .u32 xs] (fun o => o = .ret (.bool (!okB xs))) := by
  refine PC.rn ZdM ZhI ZhJ (rs := [.tmp 2]) (by rw [ZhK]) ?_
  refine ARun.seq (ARun.region ?_); refine zza ?_; refine AOps.nil (ARun.seq (ARun.region ?_)); refine zzm ?_
  refine zzc rfl rfl (Zb1 xs (okNatDec xs)) ?_
  refine zzn ?_; refine zza ?_; refine AOps.nil ?_
  refine ARun.ret ?_
  refine ⟨_, _, _, .tmp rfl .nil, .cons (.same _) .nil, rfl, ?_⟩
  rfl
theorem Zb2 (l : List (List Nat)) (n : Nat) (hn : l.length = n) : PC C Zkk [.sl n (l.map (sln .u32))] (fun o => (l.all okB = true ∧ o = .ret (.tup [])) ∨ (l.all okB = false ∧ o = .pan (failN 1))) := by
  have hp : D.pure.pures (l.map (sln .u32)) = true := by
    induction l generalizing n with
    | nil => rfl
    | cons x l ih =>
      simp only [List.map_cons, D.pure.pures, D.pure, Bool.true_and]
      exact ih _ rfl
  have he : (l.map (sln .u32)).any badD = !l.all okB := by
    clear hp hn
    induction l with
    | nil => rfl
    | cons x l ih => simp only [List.map_cons, List.any_cons, List.all_cons, badD_sln, ih, Bool.not_and]
  refine PC.rn Zfa Zjo Zjp (rs := []) (by rw [Zjq]) ?_
  refine ARun.region ?_; refine zzm ?_
  refine zzc rfl rfl (ZjS _ n (by simpa using hn) Zen [] badD rfl (fun d hd => by obtain ⟨xs, _, rfl⟩ := List.mem_map.1 hd; rw [badD_sln]; exact ZhQ xs)) ?_
  refine zzn ?_
  refine y_gop rfl (g_call rfl rfl (PC.gp (Zbo _ 1))) (fun hg => ?_) (fun q hq => by obtain ⟨hq, rfl⟩ := hq; exact ⟨_, _, .same _, rfl, .inr ⟨by rw [he, Bool.not_not] at hq; exact hq, rfl⟩⟩)
  refine AOps.nil ?_
  refine ARun.nil ?_
  refine ⟨_, _, _, .nil, .nil, rfl, ?_⟩
  exact .inl ⟨by rw [he, Bool.not_not] at hg; exact hg, rfl⟩
theorem Zb3 (n : Nat) : PC C Zko [numD n] (fun o => ((lim n).length ≤ 1024 ∧ o = .ret (numD n)) ∨ (¬ (lim n).length ≤ 1024 ∧ o = .pan (failN 2))) := by
  refine PC.rn Zfb Zjr Zjs (rs := [.tmp 2]) (by rw [Zjt]) ?_
  refine ARun.lenle 0 rfl (fun hlen => ?_)
  rw [maxLen_eq] at hlen
  refine ARun.seq (ARun.region ?_); refine zza ?_; refine AOps.nil (ARun.seq (ARun.region ?_)); refine zzm ?_; refine zzN ?_; refine zzi ?_
  refine y_gop rfl (g_call rfl rfl (PC.gp (Zbo _ 2))) (fun hg => ?_) (fun q hq => by obtain ⟨hq, rfl⟩ := hq; exact ⟨_, _, .same _, rfl, .inr ⟨by have := of_decide_eq_false hq; omega, rfl⟩⟩)
  refine AOps.nil (ARun.seq (ARun.region ?_)); refine zzm ?_
  refine zzc rfl rfl (Zg4 (lim n) (by have := of_decide_eq_true hg; omega)) ?_
  refine zza ?_; refine AOps.nil ?_
  refine ARun.ret ?_
  refine ⟨_, _, _, .tmp rfl .nil, .cons (.same _) .nil, rfl, ?_⟩
  exact .inl ⟨by have := of_decide_eq_true hg; omega, rfl⟩
end Go.V
set_option synthInstance.maxSize 100000
set_option synthInstance.maxHeartbeats 2000000
namespace Go.V
open Go.RowKit Go.Proofs
def outN : Nat ⊕ Int → Out
  | .inl n => .ret (numD n)
  | .inr e => .pan (failN e)
def resN (xs ys : List Nat) (v : Nat ⊕ Int) : Nat × Int :=
  bif okB xs && okB ys then (match v with
    | .inl n => if (lim n).length ≤ 1024 then (n, 0) else (0, 2)
    | .inr e => (0, e)) else (0, 1)
theorem fz_nil {H : Heap} : Fz H .nilsl (numD 0) [] := by
  have : numD 0 = .sl 0 [] := by rw [numD, lim_zero]; rfl
  rw [this]; exact .nil
theorem okNat_lim {xs : List Nat} (hu : U32 xs) (h : okB xs = true) : ∃ a, xs = lim a ∧ (lim a).length ≤ 1024 :=
  ⟨val xs, (lim_val hu (okB_iff.1 h).2).symm, by rw [lim_val hu (okB_iff.1 h).2]; exact (okB_iff.1 h).1⟩
theorem Zbp (xs ys : List Nat) (hx : U32 xs) (hy : U32 ys) (f : FuncId) (v : Nat ⊕ Int) (hf : ∀ a b, xs = lim a → ys = lim b → (lim a).length ≤ 1024 → (lim b).length ≤ 1024 → PC C f [numD a, numD b] (fun o => o = outN v)) :
    PC C ZfI [sln .u32 xs, sln .u32 ys, .agg [.clos f [], .nilfn]] (fun o => o = .ret (.tup [numD (resN xs ys v).1, .int .i64 (resN xs ys v).2])) := by
  have pan : ∀ (e : Int) (env : List D) (o0 : Option AObj), env[6]? = some .nilsl → env[7]? = some (.ptr 1 0) → resN xs ys v = (0, e) → (QFin C [.tmp 6, .cell 7 31] fun o x => o.pure = true ∧ o = .ret (.tup [numD (resN xs ys v).1, .int .i64 (resN xs ys v).2])) (.pan (failN e)) env [o0, some ⟨[.int .i64 0], Zah, 1, true, none⟩] [.fn Zaz [.ptr 1 0]] := by
    intro e env o0 h6 h7 hr
    refine DC.mono (Zev _ 0 e) ?_
    rintro _ _ ⟨rfl, rfl⟩
    exact ⟨_, _, _, .tmp h6 (ResR.cell1 h7 rfl rfl rfl rfl .nil), .cons fz_nil (.cons (.same _) .nil), rfl, by rw [hr]; rfl⟩
  refine PC.rn Zcc ZeK ZeL (rs := [.tmp 6, .cell 7 31]) (by rw [ZeM]) ?_
  refine ARun.seq (ARun.region ?_)
  refine y_new rfl (n_box rfl rfl rfl) ?_
  refine zza ?_
  refine y_new rfl (Zae rfl rfl rfl rfl) ?_
  refine AOps.nil (ARun.seq (ARun.region ?_))
  refine Zdl rfl rfl rfl ?_
  refine AOps.nil (ARun.seq (ARun.region ?_)); refine zzm ?_; refine zzm ?_
  refine y_op rfl (Zan rfl rfl rfl rfl rfl rfl rfl rfl rfl rfl rfl (by decide) (by decide) rfl) ?_
  refine y_gop rfl (g_call rfl rfl (PC.gp (Zb2 [xs, ys] 2 rfl))) (fun hg => ?_) (fun q hq => by obtain ⟨hq, rfl⟩ := hq; exact pan 1 _ _ rfl rfl (by simp only [List.all_cons, List.all_nil, Bool.and_true] at hq; simp only [resN, hq, cond_false]))
  simp only [List.all_cons, List.all_nil, Bool.and_true] at hg
  have hres := hg
  rw [Bool.and_eq_true] at hg
  obtain ⟨a, rfl, la⟩ := okNat_lim hx hg.1
  obtain ⟨b, rfl, lb⟩ := okNat_lim hy hg.2
  have hfa := hf a b rfl rfl la lb
  cases v with
  | inr e =>
    refine AOps.nil (ARun.seq (ARun.region ?_))
    refine y_op rfl (q_fldP rfl rfl rfl (by decide)) ?_
    refine y_op rfl (Zac rfl rfl rfl rfl rfl) ?_
    refine zzm ?_; refine zzm ?_
    refine y_gop rfl (g_call (d := .any) (g := False) (KP := fun q => q = failN e) rfl rfl (hfa.mono fun o ho => .inr ⟨failN e, rfl, ho⟩)) (fun hg => hg.elim) (fun q hq => by subst hq; exact pan e _ _ rfl rfl (by simp only [resN, hres, cond_true]))
  | inl n =>
    refine AOps.nil (ARun.seq (ARun.region ?_))
    refine y_op rfl (q_fldP rfl rfl rfl (by decide)) ?_
    refine y_op rfl (Zac rfl rfl rfl rfl rfl) ?_
    refine zzm ?_; refine zzm ?_
    refine zzc rfl rfl (hfa) ?_
    refine y_gop rfl (g_call rfl rfl (PC.gp (Zb3 n))) (fun hg => ?_) (fun q hq => by obtain ⟨hq, rfl⟩ := hq; exact pan 2 _ _ rfl rfl (by simp only [resN, hres, cond_true, if_neg hq]))
    refine zza ?_
    refine y_new rfl (Zad rfl rfl rfl rfl rfl rfl (Nat.le_of_ble_eq_true rfl) rfl) ?_
    refine AOps.nil ?_
    refine ARun.ret ?_
    refine DC.mono (Zeu _ 0) ?_
    rintro _ _ ⟨rfl, rfl⟩
    exact ⟨_, _, _, .tmp rfl (ResR.cell1 rfl rfl rfl rfl rfl .nil), .cons (.same _) (.cons (.same _) .nil), rfl, by simp only [resN, hres, cond_true, if_pos hg]; rfl⟩
end Go.V
set_option synthInstance.maxSize 100000
set_option synthInstance.maxHeartbeats 2000000
namespace Go.V
open Go.RowKit Go.Proofs
theorem dc0_caught_ret (e0 : Int) : DC C Zaz [some ⟨[.int .i64 e0], Zah, 1, true, none⟩] [.ptr 0 0] .returning (fun m' H' => m' = .returning ∧ H' = [some ⟨[.int .i64 e0], Zah, 1, true, none⟩]) := by
  refine DC.of_run Zbc ZbD rfl ZbE (by rw [ZbF]) (fun _ h => by cases h) (by simp only [List.length_cons, List.length_nil, Nat.reduceAdd, Nat.reduceSub, List.replicate_succ, List.replicate_zero, List.cons_append, List.nil_append, recD, envPut, List.set_cons_succ, List.set_cons_zero]; exact rfl) rfl (by simp only [recD, envPut, List.set_cons_succ, List.set_cons_zero]; exact rfl) ?_
  refine ARun.seq (ARun.region ?_); refine zzm ?_
  refine y_op rfl (ZjR (by kernel_rfl) rfl) ?_
  refine AOps.nil ?_
  refine ARun.condF rfl ?_
  refine ARun.skip ?_
  refine ARun.nil ?_
  exact ⟨rfl, rfl, rfl⟩
theorem dc0_caught_pan (e0 e : Int) : DC C Zaz [some ⟨[.int .i64 e0], Zah, 1, true, none⟩] [.ptr 0 0] (.panicking (failN e)) (fun m' H' => m' = .recovered (failN e) ∧ H' = [some ⟨[.int .i64 e], Zah, 1, true, none⟩, some ⟨[.int .i64 e], Zcj, 1, true, none⟩]) := by
  refine DC.of_run Zbc ZbD rfl ZbE (by rw [ZbF]) (fun _ h => by cases h) (by simp only [List.length_cons, List.length_nil, Nat.reduceAdd, Nat.reduceSub, List.replicate_succ, List.replicate_zero, List.cons_append, List.nil_append, recD, envPut, List.set_cons_succ, List.set_cons_zero]; exact rfl) rfl (by simp only [recD, envPut, List.set_cons_succ, List.set_cons_zero]; exact rfl) ?_
  refine ARun.seq (ARun.region ?_); refine zzm ?_
  refine y_op rfl (q_ifNe (by kernel_rfl) rfl) ?_
  refine AOps.nil ?_
  refine ARun.condT rfl ?_
  refine ARun.seq (ARun.region ?_); refine zzm ?_
  refine y_op rfl (Zcg rfl rfl rfl) ?_
  refine zzm ?_; refine zze ?_; refine zze ?_
  refine y_new rfl (Zae rfl rfl rfl rfl) ?_
  refine y_new rfl (Zaa rfl rfl rfl rfl rfl rfl rfl rfl (Nat.le_of_ble_eq_true rfl) rfl) ?_
  refine zza ?_; refine AOps.nil (ARun.seq (ARun.seq (ARun.region ?_))); refine zzm ?_; refine zzn ?_; refine AOps.nil ?_
  refine ARun.condF rfl ?_
  refine ARun.skip (ARun.region ?_); refine zzm ?_
  refine y_op rfl (q_fldP rfl rfl rfl (by decide)) ?_
  refine y_op rfl (Zac rfl rfl rfl rfl rfl) ?_
  refine y_op rfl (q_nil rfl rfl) ?_
  refine y_new rfl (Zad rfl rfl rfl rfl rfl rfl (Nat.le_of_ble_eq_true rfl) rfl) ?_
  refine AOps.nil ?_
  refine ARun.nil ?_
  exact ⟨rfl, rfl, rfl⟩
theorem ZjU (a b : Nat) (ha : (lim a).length ≤ 1024) (hb : (lim b).length ≤ 1024) : PC C ZgR [numD a, numD b] (fun o => o = outN (if b ≤ a then .inl (a - b) else .inr 3)) := by
  refine PC.rn Zfe ZjE ZjF (rs := [.tmp 4]) (by rw [ZjG]) ?_
  refine ARun.seq (ARun.region ?_); refine zza ?_; refine AOps.nil (ARun.seq (ARun.region ?_)); refine zzm ?_; refine zzm ?_
  refine zzc rfl rfl (ZeY a b (by omega) (by omega)) ?_
  refine zzi ?_
  refine y_gop rfl (g_call rfl rfl (PC.gp (Zbo _ 3))) (fun hg => ?_) (fun q hq => by obtain ⟨hq, rfl⟩ := hq; exact ⟨_, _, .same _, rfl, by have := of_decide_eq_false hq; rw [if_neg (fun h => this (by unfold cmpI; repeat' split; all_goals omega))]; rfl⟩)
  have hg := of_decide_eq_true hg
  have hab : b ≤ a := by
    unfold cmpI at hg
    split at hg <;> omega
  refine AOps.nil (ARun.seq (ARun.region ?_)); refine zzm ?_; refine zzm ?_
  refine zzc rfl rfl (ZbK a b (by omega) hab) ?_
  refine zza ?_; refine AOps.nil ?_
  refine ARun.ret ?_
  refine ⟨_, _, _, .tmp rfl .nil, .cons (.same _) .nil, rfl, ?_⟩
  rw [if_pos hab]; rfl
theorem Zh3 (xs ys : List Nat) (hx : U32 xs) (hy : U32 ys) : PC C ZlD [sln .u32 xs, sln .u32 ys] (fun o => o = .ret (.tup [numD (resN xs ys (.inl (val xs + val ys))).1, .int .i64 (resN xs ys (.inl (val xs + val ys))).2])) := by
  refine PC.rn ZhU ZkY ZkZ (rs := [.tmp 4, .tmp 5]) (by rw [Zk0]) ?_
  refine ARun.seq (ARun.region ?_); refine zza ?_; refine zza ?_; refine AOps.nil (ARun.seq (ARun.region ?_)); refine zzm ?_; refine zzm ?_
  refine y_op rfl (Zap rfl rfl rfl rfl rfl) ?_
  refine zzc rfl rfl (Zbp xs ys hx hy Zdd (.inl (val xs + val ys)) (fun a b h1 h2 la lb => by subst h1; subst h2; rw [val_lim, val_lim]; exact Zaw a b (by omega) (by omega))) ?_
  refine zze ?_; refine zze ?_; refine zza ?_; refine zza ?_; refine AOps.nil ?_
  refine ARun.ret ?_
  refine ⟨_, _, _, .tmp rfl (.tmp rfl .nil), .cons (.same _) (.cons (.same _) .nil), rfl, ?_⟩
  rfl
theorem Zh4 (xs ys : List Nat) (hx : U32 xs) (hy : U32 ys) : PC C ZlE [sln .u32 xs, sln .u32 ys] (fun o => o = .ret (.tup [numD (resN xs ys (.inl (val xs * val ys))).1, .int .i64 (resN xs ys (.inl (val xs * val ys))).2])) := by
  refine PC.rn ZhV Zk1 Zk2 (rs := [.tmp 4, .tmp 5]) (by rw [Zk3]) ?_
  refine ARun.seq (ARun.region ?_); refine zza ?_; refine zza ?_; refine AOps.nil (ARun.seq (ARun.region ?_)); refine zzm ?_; refine zzm ?_
  refine y_op rfl (Zap rfl rfl rfl rfl rfl) ?_
  refine zzc rfl rfl (Zbp xs ys hx hy Zde (.inl (val xs * val ys)) (fun a b h1 h2 la lb => by subst h1; subst h2; rw [val_lim, val_lim]; exact Zh1 a b (by omega) (by omega))) ?_
  refine zze ?_; refine zze ?_; refine zza ?_; refine zza ?_; refine AOps.nil ?_
  refine ARun.ret ?_
  refine ⟨_, _, _, .tmp rfl (.tmp rfl .nil), .cons (.same _) (.cons (.same _) .nil), rfl, ?_⟩
  rfl
theorem ZeZ (xs ys : List Nat) (hx : U32 xs) (hy : U32 ys) : PC C ZlF [sln .u32 xs, sln .u32 ys] (fun o => o = .ret (.tup [numD (resN xs ys (if val ys ≤ val xs then .inl (val xs - val ys) else .inr 3)).1, .int .i64 (resN xs ys (if val ys ≤ val xs then .inl (val xs - val ys) else .inr 3)).2])) := by
  refine PC.rn ZhY Zk8 Zk9 (rs := [.tmp 4, .tmp 5]) (by rw [Zla]) ?_
  refine ARun.seq (ARun.region ?_); refine zza ?_; refine zza ?_; refine AOps.nil (ARun.seq (ARun.region ?_)); refine zzm ?_; refine zzm ?_
  refine y_op rfl (Zap rfl rfl rfl rfl rfl) ?_
  refine zzc rfl rfl (Zbp xs ys hx hy ZgR (if val ys ≤ val xs then .inl (val xs - val ys) else .inr 3) (fun a b h1 h2 la lb => by subst h1; subst h2; rw [val_lim, val_lim]; exact ZjU a b la lb)) ?_
  refine zze ?_; refine zze ?_; refine zza ?_; refine zza ?_; refine AOps.nil ?_
  refine ARun.ret ?_
  refine ⟨_, _, _, .tmp rfl (.tmp rfl .nil), .cons (.same _) (.cons (.same _) .nil), rfl, ?_⟩
  rfl
theorem ZjV (a b : Nat) (ha : (lim a).length ≤ 1024) (hb : (lim b).length ≤ 1024) (hb0 : 0 < b) : PC C ZgQ [numD a, numD b] (fun o => o = .ret (.tup [numD (a / b), numD (a % b)])) := by
  refine PC.rn Zfd ZjB ZjC (rs := [.tmp 4, .tmp 5]) (by rw [ZjD]) ?_
  refine ARun.seq (ARun.region ?_); refine zza ?_; refine zza ?_; refine AOps.nil (ARun.seq (ARun.region ?_)); refine zzm ?_; refine zzm ?_
  refine zzc rfl rfl (ZlR ZeY 32 (by decide) a b (by omega) (by omega) hb0) ?_
  refine zze ?_; refine zze ?_; refine zza ?_; refine zza ?_; refine AOps.nil ?_
  refine ARun.ret ?_
  refine ⟨_, _, _, .tmp rfl (.tmp rfl .nil), .cons (.same _) (.cons (.same _) .nil), rfl, ?_⟩
  rfl
def resD (xs ys : List Nat) : Nat × Nat × Int :=
  bif okB xs && okB ys then (if ys.length = 0 then (0, 0, 8) else (val xs / val ys, val xs % val ys, 0)) else (0, 0, 1)
theorem ZhR (xs ys : List Nat) (hx : U32 xs) (hy : U32 ys) :
    PC C ZiL [sln .u32 xs, sln .u32 ys, .agg [.nilfn, .clos ZgQ []]] (fun o => o = .ret (.tup [numD (resD xs ys).1, numD (resD xs ys).2.1, .int .i64 (resD xs ys).2.2])) := by
  have pan : ∀ (e : Int) (env : List D) (o0 : Option AObj), env[6]? = some .nilsl → env[7]? = some .nilsl → env[8]? = some (.ptr 1 0) → resD xs ys = (0, 0, e) → (QFin C [.tmp 6, .tmp 7, .cell 8 31] fun o x => o.pure = true ∧ o = .ret (.tup [numD (resD xs ys).1, numD (resD xs ys).2.1, .int .i64 (resD xs ys).2.2])) (.pan (failN e)) env [o0, some ⟨[.int .i64 0], Zah, 1, true, none⟩] [.fn Zaz [.ptr 1 0]] := by
    intro e env o0 h6 h7 h8 hr
    refine DC.mono (Zev _ 0 e) ?_
    rintro _ _ ⟨rfl, rfl⟩
    exact ⟨_, _, _, .tmp h6 (.tmp h7 (ResR.cell1 h8 rfl rfl rfl rfl .nil)), .cons fz_nil (.cons fz_nil (.cons (.same _) .nil)), rfl, by rw [hr]; rfl⟩
  refine PC.rn ZdN ZhL ZhM (rs := [.tmp 6, .tmp 7, .cell 8 31]) (by rw [ZhN]) ?_
  refine ARun.seq (ARun.region ?_)
  refine y_new rfl (n_box rfl rfl rfl) ?_
  refine zza ?_; refine zza ?_
  refine y_new rfl (Zae rfl rfl rfl rfl) ?_
  refine AOps.nil (ARun.seq (ARun.region ?_))
  refine Zdl rfl rfl rfl ?_
  refine AOps.nil (ARun.seq (ARun.region ?_)); refine zzm ?_; refine zzm ?_
  refine y_op rfl (Zan rfl rfl rfl rfl rfl rfl rfl rfl rfl rfl rfl (by decide) (by decide) rfl) ?_
  refine y_gop rfl (g_call rfl rfl (PC.gp (Zb2 [xs, ys] 2 rfl))) (fun hg => ?_) (fun q hq => by obtain ⟨hq, rfl⟩ := hq; exact pan 1 _ _ rfl rfl rfl (by simp only [List.all_cons, List.all_nil, Bool.and_true] at hq; simp only [resD, hq, cond_false]))
  simp only [List.all_cons, List.all_nil, Bool.and_true] at hg
  have hres := hg
  rw [Bool.and_eq_true] at hg
  obtain ⟨a, rfl, la⟩ := okNat_lim hx hg.1
  obtain ⟨b, rfl, lb⟩ := okNat_lim hy hg.2
  refine AOps.nil (ARun.seq (ARun.region ?_)); refine zzm ?_; refine zzN ?_; refine zzi ?_
  refine y_gop rfl (g_call rfl rfl (PC.gp (Zbo _ 8))) (fun hz => ?_) (fun q hq => by obtain ⟨hq, rfl⟩ := hq; exact pan 8 _ _ rfl rfl rfl (by have := of_decide_eq_false hq; simp only [resD, hres, cond_true]; rw [if_pos (by omega)]))
  have hz := of_decide_eq_true hz
  have hb0 : 0 < b := Nat.pos_of_ne_zero (ln_pos.1 (by omega))
  have hab : resD (lim a) (lim b) = (a / b, a % b, 0) := by
    simp only [resD, hres, cond_true, val_lim]
    rw [if_neg (by omega)]
  refine AOps.nil (ARun.seq (ARun.region ?_))
  refine y_op rfl (q_fldP rfl rfl rfl (by decide)) ?_
  refine y_op rfl (Zac rfl rfl rfl rfl rfl) ?_
  refine zzm ?_; refine zzm ?_
  refine zzc rfl rfl (ZjV a b la lb hb0) ?_
  refine zzm ?_; refine zze ?_; refine zze ?_; refine zza ?_; refine zza ?_; refine AOps.nil (ARun.seq (ARun.region ?_)); refine zzm ?_
  refine zzc rfl rfl ((Zb3 (a / b)).mono (fun o ho => (ho.resolve_right (fun h => h.1 (Nat.le_trans (ln_mono (Nat.div_le_self _ _)) la))).2)) ?_
  refine zzm ?_
  refine zzc rfl rfl ((Zb3 (a % b)).mono (fun o ho => (ho.resolve_right (fun h => h.1 (Nat.le_trans (ln_mono (Nat.mod_le _ _)) la))).2)) ?_
  refine zza ?_; refine zza ?_
  refine y_new rfl (Zad rfl rfl rfl rfl rfl rfl (Nat.le_of_ble_eq_true rfl) rfl) ?_
  refine AOps.nil ?_
  refine ARun.ret ?_
  refine DC.mono (Zeu _ 0) ?_
  rintro _ _ ⟨rfl, rfl⟩
  exact ⟨_, _, _, .tmp rfl (.tmp rfl (ResR.cell1 rfl rfl rfl rfl rfl .nil)), .cons (.same _) (.cons (.same _) (.cons (.same _) .nil)), rfl, by rw [hab]; rfl⟩
theorem Ze0 (xs ys : List Nat) (hx : U32 xs) (hy : U32 ys) : PC C Zek [sln .u32 xs, sln .u32 ys] (fun o => o = .ret (.tup [numD (resD xs ys).1, numD (resD xs ys).2.1, .int .i64 (resD xs ys).2.2])) := by
  refine PC.rn ZhX Zk5 Zk6 (rs := [.tmp 4, .tmp 5, .tmp 6]) (by rw [Zk7]) ?_
  refine ARun.seq (ARun.region ?_); refine zza ?_; refine zza ?_; refine zza ?_; refine AOps.nil (ARun.seq (ARun.region ?_)); refine zzm ?_; refine zzm ?_
  refine y_op rfl (Zap rfl rfl rfl rfl rfl) ?_
  refine zzc rfl rfl (ZhR xs ys hx hy) ?_
  refine zze ?_; refine zze ?_; refine zze ?_; refine zza ?_; refine zza ?_; refine zza ?_; refine AOps.nil ?_
  refine ARun.ret ?_
  refine ⟨_, _, _, .tmp rfl (.tmp rfl (.tmp rfl .nil)), .cons (.same _) (.cons (.same _) (.cons (.same _) .nil)), rfl, ?_⟩
  rfl
def resC (xs ys : List Nat) : Int × Int := bif okB xs && okB ys then (cmpI (val xs) (val ys), 0) else (0, 1)
theorem Zli (xs ys : List Nat) (hx : U32 xs) (hy : U32 ys) : PC C ZlG [sln .u32 xs, sln .u32 ys] (fun o => o = .ret (.tup [.int .i64 (resC xs ys).1, .int .i64 (resC xs ys).2])) := by
  have pan : ∀ (e : Int) (env : List D), env[4]? = some (.int .i64 0) → env[5]? = some (.ptr 0 0) → resC xs ys = (0, e) → (QFin C [.tmp 4, .cell 5 31] fun o x => o.pure = true ∧ o = .ret (.tup [.int .i64 (resC xs ys).1, .int .i64 (resC xs ys).2])) (.pan (failN e)) env [some ⟨[.int .i64 0], Zah, 1, true, none⟩] [.fn Zaz [.ptr 0 0]] := by
    intro e env h4 h5 hr
    refine DC.mono (dc0_caught_pan 0 e) ?_
    rintro _ _ ⟨rfl, rfl⟩
    exact ⟨_, _, _, .tmp h4 (ResR.cell1 h5 rfl rfl rfl rfl .nil), .cons (.same _) (.cons (.same _) .nil), rfl, by rw [hr]; rfl⟩
  refine PC.rn ZhZ Zlb Zlc (rs := [.tmp 4, .cell 5 31]) (by rw [Zld]) ?_
  refine ARun.seq (ARun.region ?_); refine zza ?_
  refine y_new rfl (Zae rfl rfl rfl rfl) ?_
  refine AOps.nil (ARun.seq (ARun.region ?_))
  refine Zdl rfl rfl rfl ?_
  refine AOps.nil (ARun.seq (ARun.region ?_)); refine zzm ?_; refine zzm ?_
  refine y_op rfl (Zan rfl rfl rfl rfl rfl rfl rfl rfl rfl rfl rfl (by decide) (by decide) rfl) ?_
  refine y_gop rfl (g_call rfl rfl (PC.gp (Zb2 [xs, ys] 2 rfl))) (fun hg => ?_) (fun q hq => by obtain ⟨hq, rfl⟩ := hq; exact pan 1 _ rfl rfl (by simp only [List.all_cons, List.all_nil, Bool.and_true] at hq; simp only [resC, hq, cond_false]))
  simp only [List.all_cons, List.all_nil, Bool.and_true] at hg
  have hres := hg
  rw [Bool.and_eq_true] at hg
  obtain ⟨a, rfl, la⟩ := okNat_lim hx hg.1
  obtain ⟨b, rfl, lb⟩ := okNat_lim hy hg.2
  refine AOps.nil (ARun.seq (ARun.region ?_)); refine zzm ?_; refine zzm ?_
  refine zzc rfl rfl (ZeY a b (by omega) (by omega)) ?_
  refine zza ?_
  refine y_new rfl (Zad rfl rfl rfl rfl rfl rfl (Nat.le_of_ble_eq_true rfl) rfl) ?_
  refine AOps.nil ?_
  refine ARun.ret ?_
  refine DC.mono (dc0_caught_ret 0) ?_
  rintro _ _ ⟨rfl, rfl⟩
  exact ⟨_, _, _, .tmp rfl (ResR.cell1 rfl rfl rfl rfl rfl .nil), .cons (.same _) (.cons (.same _) .nil), rfl, by simp only [resC, hres, cond_true, val_lim]; rfl⟩
theorem Zbf (n : Nat) (hn : n < 18446744073709551616) : PC C Zhz [.int .u64 (n : Int)] (fun o => o = .ret (numD n)) := by
  refine PC.rn Zc6 ZgA ZgB (rs := [.tmp 2]) (by rw [ZgC]) ?_
  refine ARun.seq (ARun.region ?_); refine zza ?_; refine AOps.nil (ARun.seq (ARun.region ?_)); refine zzm ?_
  refine zzc rfl rfl (ZjO n hn) ?_
  refine zza ?_; refine AOps.nil ?_
  refine ARun.ret ?_
  refine ⟨_, _, _, .tmp rfl .nil, .cons (.same _) .nil, rfl, ?_⟩
  rfl
end Go.V
/- BOXES that are never written. -/
namespace Go.V
open Go.RowKit
instance (priority := low) AppL.any {α : Type} {l : List α} {a : α} : AppL l a l.length (l ++ [a]) := ⟨rfl, rfl⟩
instance (priority := low) PutL.any {α : Type} {l : List α} {i : Nat} {a : α} : PutL l i a (l.set i a) := ⟨rfl⟩
section
variable {C : Ctx} {env : List D} {H : Heap} {dst : Option Tmp} {ty : TypeId} {pos : String} {aft : Array Edge} {gd : Option (Nat × Bool)} {x y z : Operand} {d : D} {T : TypeId}
theorem pures_at {cs : List D} (hp : D.pure.pures cs = true) {j : Nat} {d : D} (hd : cs[j]? = some d) : d.pure = true := by
  have key : ∀ (l : List D) (j : Nat), D.pure.pures l = true → l[j]? = some d → d.pure = true := by
    intro l
    induction l with
    | nil => intro j _ h; simp at h
    | cons c l ih =>
      intro j h hj
      simp only [D.pure.pures, Bool.and_eq_true] at h
      cases j with
      | zero => simp at hj; subst hj; exact h.1
      | succ j => simp only [List.getElem?_cons_succ] at hj; exact ih j h.2 hj
  exact key cs j hp hd
theorem q_boxF {ds : List D} (hx : evO C env x = some d) (hd : cellsD d = some ds) (hk : ds.all (okCell H) = true) (hp : D.pure.pures ds = true) : OpQ C ⟨dst, .box T x, ty, pos, aft, gd⟩ env H (.sptr ds) :=
  OpQ.newF (e := T) fun L0 w μ a hs he => by
    have ex := he _ _ hx
    obtain ⟨v1, v2⟩ := cellsD_ok hd hk ex
    refine ⟨.pointer (some ⟨w.heap.size, 0, none⟩), (a.eval x).cells, by simp [execOp, Instr.box, newVar, newRow], fun hl => ?_⟩
    simp only [VR]
    refine ⟨⟨w.heap.size, 0, none⟩, rfl, by simp, fun hfb => Nat.lt_irrefl _ (hs.forb_lt hfb), VRL_mk fun j d hd => ?_⟩
    obtain ⟨v, k1, k2⟩ := VRs_get v1 hd
    refine ⟨v, ?_, v2 v (List.mem_of_getElem? k1), VR.step (hl.step L0).pure (VR.drop (pures_at hp hd) k2)⟩
    rw [Nat.zero_add, add_lit, cell_row (heap_alloc_new w _)]
    simpa using k1
theorem q_ifEq {U T' T : TypeId} (hi : isIf C.P U = true) (hx : evO C env x = some (.iface T d)) : OpQ C ⟨dst, .binOp .eql U x (.const .nilIface) T', ty, pos, aft, gd⟩ env H (.bool false) :=
  OpQ.of_run fun L w μ a he => by
    have ex := he _ _ hx
    simp only [VR] at ex
    obtain ⟨u, ex, _⟩ := ex
    refine ⟨.bool false, ?_, by simp only [VR]⟩
    have hg : (eqGuard .eql U x (.const .nilIface) (.iface T u) .nilIface).run C.P w = .ok () w := by
      unfold eqGuard; simp
    have ec : a.eval (.const .nilIface) = .nilIface := rfl
    simp only [execOp, ex, ec, Sem.run_bind, hg, Result.andThen_ok, run_ifEq w hi T u, Sem.run_pure]
theorem ZjW {U T' : TypeId} (hi : isIf C.P U = true) (hx : evO C env x = some .niliface) : OpQ C ⟨dst, .binOp .eql U x (.const .nilIface) T', ty, pos, aft, gd⟩ env H (.bool true) :=
  OpQ.of_run fun L w μ a he => by
    have ex := he _ _ hx
    simp only [VR] at ex
    refine ⟨.bool true, ?_, by simp only [VR]⟩
    have hg : (eqGuard .eql U x (.const .nilIface) .nilIface .nilIface).run C.P w = .ok () w := by
      unfold eqGuard; simp
    have ec : a.eval (.const .nilIface) = .nilIface := rfl
    simp only [execOp, ex, ec, Sem.run_bind, hg, Result.andThen_ok, run_ifEqNil w hi, Sem.run_pure]
end
theorem DC.of_run1 {C : Ctx} {f : FuncId} {fn : Func} {id : Nat} {c2 : Code} {args : List D} {H : Heap} {m : AMode} {R : AMode → Heap → Prop} {n : Nat} {t1 : Tmp} {ty1 : TypeId} {p1 : String} {a1 : Array Edge} {at1 : Array TypeId} {env1 : List D}
    (hf : C.P.funcs[f]? = some fn) (hen : Enters C.P f) (hb : fn.body = some (.seq (.region id #[⟨some t1, .call ⟨.builtin .recover, #[], at1⟩, ty1, p1, a1, none⟩] false) c2)) (hn : fn.ntmps = n) (hres : fn.results.toList = [])
    (hm : ∀ d, m ≠ .recovered d) (he1 : envPut (args ++ List.replicate (n - args.length) (.tup [])) (some t1) (recD m).1 = env1)
    (h : ARun C ⟨none, fun x _ H' df => df = [] ∧ match x with | .ret => R (recD m).2 H' | .norm => R (recD m).2 H' | _ => False⟩ [.code c2] env1 H []) : DC C f H args m R := by
  refine ⟨hen, fun L0 w μ vs u hs ha hu c₀ cs hc₀ => ?_⟩
  have hl := VRs_length ha
  let b : Frame := { (default : Frame) with fn := f, kind := .deferred }
  let a : Act := { tmps := vs.toArray ++ Array.replicate (fn.ntmps - vs.toArray.size) undef, defers := [] }
  have henter : Frame.enter C.P f vs.toArray .deferred = b.at a [.code (.seq (.region id #[⟨some t1, .call ⟨.builtin .recover, #[], at1⟩, ty1, p1, a1, none⟩] false) c2)] := by
    simp [Frame.enter, Frame.at, hf, hb, b, a]
  have htm : VRs w (forb L0 μ H) μ H (args ++ List.replicate (n - args.length) (.tup [])) a.tmps.toList := by
    have : a.tmps.toList = vs ++ List.replicate (n - args.length) undef := by
      simp [a, hn, hl]
    rw [this]
    exact VRs_append ha (VRs_repl _)
  have hrec : ∃ (v : Value) (u' : FrameMode), VR w (forb L0 μ H) μ H (recD m).1 v ∧ ModeR w (forb L0 μ H) μ H (recD m).2 u' ∧
      (match recoverD (c₀ :: cs) with | some (v, cs') => (v, cs') | none => (.nilIface, c₀ :: cs)) = (v, { c₀ with mode := u' } :: cs) := by
    cases m with
    | returning =>
      have hu' : u = .returning := hu
      subst hu'
      refine ⟨.nilIface, .returning, by simp [recD, VR], rfl, ?_⟩
      have : c₀ = { c₀ with mode := .returning } := by rw [← hc₀]
      simp only [recoverD, hc₀]
      rw [← this]
    | panicking d =>
      obtain ⟨v, hu', hvd⟩ := hu
      subst hu'
      refine ⟨v, .panicking [{ v := v, recovered := true }], hvd, ⟨v, rfl, hvd⟩, ?_⟩
      simp only [recoverD, hc₀, pan1]
    | recovered d => exact (hm d rfl).elim
  obtain ⟨v, u', hv, hu', hrd⟩ := hrec
  let aa : Act := a.put (some t1) v
  have hv1 : VRs w (forb L0 μ H) μ H env1 (a.put (some t1) v).tmps.toList := by rw [← he1]; exact VRs_put htm hv
  have hstep : ∃ e a' cs' w', (e = .normal ∧ a' = aa ∧ cs' = { c₀ with mode := u' } :: cs ∧ w' = w) ∧ Arrives C.P (lone (b.at a (.inRegion #[⟨some t1, .call ⟨.builtin .recover, #[], at1⟩, ty1, p1, a1, none⟩] [0] :: [.code c2])) (c₀ :: cs) w) b [.code c2] cs' e a' w' := by
    refine wp_opsS (P := C.P) (Q := fun e a' cs' w' => e = .normal ∧ a' = aa ∧ cs' = { c₀ with mode := u' } :: cs ∧ w' = w) [0] a (c₀ :: cs) w ?_ b [.code c2] rfl rfl
    have hro : ∀ (w : World), (execOp a.eval ⟨some t1, .call ⟨.builtin .recover, #[], at1⟩, ty1, p1, a1, none⟩).run C.P w = .ok .recover w := by
      intro w; simp [execOp, resolve, invoke, builtin]
    have fin : ∀ cs', cs' = { c₀ with mode := u' } :: cs → wpOpsS C.P #[⟨some t1, .call ⟨.builtin .recover, #[], at1⟩, ty1, p1, a1, none⟩] (fun e a' cs' w' => e = .normal ∧ a' = aa ∧ cs' = { c₀ with mode := u' } :: cs ∧ w' = w) [] (a.put (some t1) v) cs' w := by
      intro cs' hcs
      simp [wpOpsS, hcs, aa]
    cases hrr : recoverD (c₀ :: cs) with
    | none =>
      rw [hrr] at hrd
      injection hrd with h1 h2
      subst h1
      have := fin (c₀ :: cs) h2
      simpa [wpOpsS, Region.wanted, hro, hrr] using this
    | some p =>
      obtain ⟨pv, pcs⟩ := p
      rw [hrr] at hrd
      injection hrd with h1 h2
      subst h1
      have := fin pcs h2
      simpa [wpOpsS, Region.wanted, hro, hrr] using this
  obtain ⟨e0, a0, cs0, w0, ⟨q1, q2, q3, q4⟩, harr⟩ := hstep
  rw [q1, q2, q3, q4] at harr
  obtain ⟨e, a', w', ⟨x, env, H', μ', df, ⟨hdf, hR⟩, s1, hv', hd', hx', he'⟩, harr2⟩ := h.out L0 w μ H w μ aa hs hv1 rfl (Evo.refl _ _ _) b ({ c₀ with mode := u' } :: cs) rfl
  subst hdf
  have hd0 : a'.defers = [] := hd'
  have hsteps : Steps C.P (lone (b.at a [.code (.seq (.region id #[⟨some t1, .call ⟨.builtin .recover, #[], at1⟩, ty1, p1, a1, none⟩] false) c2)]) (c₀ :: cs) w) (lone (b.at aa [.code c2]) ({ c₀ with mode := u' } :: cs) w) :=
    Steps.trans (.one step_seq) (Steps.trans (.one step_region) harr)
  rw [← henter] at hsteps
  have eAt : b.atR aa [.code c2] = b.at aa [.code c2] := Frame.atR_of_none rfl _ _
  rw [← eAt] at hsteps
  obtain ⟨rv, r1, _⟩ := results_ok s1 hv' (fn := fn) (ds := []) (by rw [hres]; exact .nil)
  have hmode : ModeR w' (forb L0 μ' H') μ' H' (recD m).2 u' := hu'.step (he'.step L0)
  cases x with
  | ret =>
    have hx2 : e = .ret := hx'
    subst hx2
    obtain ⟨k, hst⟩ := harr2
    exact ⟨.returned rv, u', w', { b.atR a' (.code .ret :: k) with mode := .returning }, ⟨rv, (recD m).2, H', μ', rfl, hR, s1, hmode, he'⟩, Steps.trans hsteps (Steps.trans hst (.one (stepR_ret rfl))), rfl, rfl, hd0, fn, hf, r1⟩
  | norm =>
    have hx2 : e = .normal := hx'
    subst hx2
    exact ⟨.returned rv, u', w', { b.atR a' [] with mode := .returning }, ⟨rv, (recD m).2, H', μ', rfl, hR, s1, hmode, he'⟩, Steps.trans hsteps (Steps.trans harr2 (.one (stepR_end rfl))), rfl, rfl, hd0, fn, hf, r1⟩
  | exit id => exact hR.elim
  | pan d => exact hR.elim
end Go.V
namespace Go.V
theorem Zku {C : Ctx} {env : List D} {H : Heap} {dst : Option Tmp} {ty : TypeId} {pos : String} {aft : Array Edge} {gd : Option (Nat × Bool)} {x : Operand} : OpQ C ⟨dst, .assign x, ty, pos, aft, gd⟩ env H .any :=
  OpQ.of_run fun L w μ a hx => ⟨a.eval x, by simp [execOp], by simp only [VR]⟩
theorem OpQ.cast {C : Ctx} {o : Oper} {env : List D} {H : Heap} {d d' : D} (h : OpQ C o env H d) (e : d = d') : OpQ C o env H d' := e ▸ h
theorem zzb {C : Ctx} {Q : Post} {ops : Array Oper} {rest : List Oper} {k : List Item} {env env' : List D} {H : Heap} {df : List ADef} {dst : Option Tmp} {ty : TypeId} {pos : String} {aft : Array Edge} {gd : Option (Nat × Bool)} {d : D} {x : Operand} {T : TypeId} {ds : List D} [hput : Put env dst (.sptr ds) env'] (hk : AOps C Q ops rest k env' H df) (hg : gOk ops.toList env gd = some true := by rfl) (hx : evO C env x = some d := by rfl) (hd : cellsD d = some ds := by rfl) (hok : ds.all (okCell H) = true := by rfl) (hp : D.pure.pures ds = true := by rfl) : AOps C Q ops (⟨dst, .box T x, ty, pos, aft, gd⟩ :: rest) k env H df := y_op hg (q_boxF hx hd hok hp) hk
end Go.V
set_option synthInstance.maxSize 100000
set_option synthInstance.maxHeartbeats 2000000
namespace Go.V
open Go.RowKit Go.Proofs
abbrev failW (e : Int) : D := .iface ZcV (.agg [.int .i64 e])
theorem ZaI (ok : Bool) (e : Int) : PC C Zi6 [.bool ok, .int .i64 e] (fun o => (ok = true ∧ o = .ret (.tup [])) ∨ (ok = false ∧ o = .pan (failW e))) := by
  refine PC.rn Zee Zis Zit (rs := []) (by rw [Ziu]) ?_
  refine ARun.seq (ARun.region ?_); refine zzm ?_; refine zzn ?_; refine AOps.nil ?_
  refine ARun.cond rfl (fun h => ?_) (fun h => ?_)
  · skip
    refine ARun.region ?_; refine zzm ?_
    refine y_op rfl (Zap rfl rfl rfl rfl rfl) ?_
    refine y_op rfl (Zg2 rfl rfl rfl) ?_
    exact Zkr rfl rfl ⟨_, _, .same _, rfl, .inr ⟨by simpa using h, rfl⟩⟩
  refine ARun.skip ?_
  refine ARun.nil ?_
  refine ⟨_, _, _, .nil, .nil, rfl, ?_⟩
  exact .inl ⟨by simpa using h, rfl⟩
theorem ZjX (n : Nat) (e : Int) : PC C Zay [numD n, .int .i64 e] (fun o => (e = 0 ∧ o = .ret (numD n)) ∨ (e ≠ 0 ∧ o = .pan (failW e))) := by
  refine PC.rn Zeg Ziv Ziw (rs := [.tmp 4]) (by rw [Zix]) ?_
  refine ARun.seq (ARun.region ?_); refine zza ?_; refine AOps.nil (ARun.seq (ARun.region ?_)); refine zzm ?_; refine zzi ?_; refine zzm ?_
  refine y_gop rfl (g_call rfl rfl (PC.gp (ZaI _ e))) (fun hg => ?_) (fun q hq => by obtain ⟨hq, rfl⟩ := hq; exact ⟨_, _, .same _, rfl, .inr ⟨by simpa using hq, rfl⟩⟩)
  refine AOps.nil (ARun.seq (ARun.region ?_)); refine zzm ?_; refine zza ?_; refine AOps.nil ?_
  refine ARun.ret ?_
  refine ⟨_, _, _, .tmp rfl .nil, .cons (.same _) .nil, rfl, ?_⟩
  exact .inl ⟨by simpa using hg, rfl⟩
theorem Zdn (n : Nat) : PC C Zay [numD n, .int .i64 0] (fun o => o = .ret (numD n)) := (ZjX n 0).mono fun o ho => (ho.resolve_right (fun h => h.1 rfl)).2
abbrev intA (b : Bool) (xs : List Nat) : D := .agg [.bool b, sln .u32 xs]
abbrev intD (z : Int) : D := .agg [.bool (decide (z < 0)), numD z.natAbs]
def sgnd (b : Bool) (n : Nat) : Int := bif b then -(n : Int) else n
theorem sgnd_abs (b : Bool) (n : Nat) : (sgnd b n).natAbs = n := by cases b <;> simp [sgnd]
theorem sgnd_neg (b : Bool) (n : Nat) : decide (sgnd b n < 0) = (b && decide (0 < n)) := by
  cases b with
  | true => simp [sgnd]
  | false => simp only [sgnd, cond_false, Bool.false_and]; exact decide_eq_false (by omega)
theorem Zaf (b : Bool) (n : Nat) : PC C ZdF [.bool b, numD n] (fun o => o = .ret (intD (sgnd b n))) := by
  have fin : ∀ c : Bool, c = (b && decide (0 < n)) → D.agg [.bool c, numD n] = intD (sgnd b n) := fun c hc => by rw [intD, sgnd_abs, sgnd_neg, hc]
  refine PC.rn Zc4 Zgr Zgs (rs := [.cell 4 27]) (by rw [Zgt]) ?_
  refine ARun.seq (ARun.region ?_)
  refine y_new rfl (Zae rfl rfl rfl rfl) ?_
  refine AOps.nil (ARun.seq (ARun.region ?_)); refine zzm ?_; refine zzm ?_
  refine AOps.bool 6 rfl (fun h => ?_) (fun h => ?_)
  · skip
    refine zzm ?_; refine zzN ?_; refine zzi ?_; refine zzp ?_; refine zzm ?_
    refine y_op rfl (Zap rfl rfl rfl rfl rfl) ?_
    refine y_new rfl (Zaa rfl rfl rfl rfl rfl rfl rfl rfl (Nat.le_of_ble_eq_true rfl) rfl) ?_
    refine AOps.nil ?_
    refine ARun.ret ?_
    refine ⟨_, _, _, ResR.cellA rfl rfl rfl rfl rfl rfl .nil, .cons (.same _) .nil, rfl, ?_⟩
    rw [← fin (decide (((lim n).length : Int) > 0)) (by rw [h, Bool.true_and]; exact decide_eq_decide.2 ⟨fun h => by have := ln_pos.1 (show 0 < (lim n).length by omega); omega, fun h => by have := ln_pos.2 (show n ≠ 0 by omega); omega⟩)]
    rfl
  refine zzk ?_; refine zzk ?_; refine zzk ?_; refine zzp ?_; refine zzm ?_
  refine y_op rfl (Zap rfl rfl rfl rfl rfl) ?_
  refine y_new rfl (Zaa rfl rfl rfl rfl rfl rfl rfl rfl (Nat.le_of_ble_eq_true rfl) rfl) ?_
  refine AOps.nil ?_
  refine ARun.ret ?_
  refine ⟨_, _, _, ResR.cellA rfl rfl rfl rfl rfl rfl .nil, .cons (.same _) .nil, rfl, ?_⟩
  rw [← fin false (by rw [h]; rfl)]
  rfl
end Go.V
set_option synthInstance.maxSize 100000
set_option synthInstance.maxHeartbeats 2000000
namespace Go.V
open Go.RowKit Go.Proofs
theorem okB_lim {a : Nat} (h : (lim a).length ≤ 1024) : okB (lim a) = true := okB_iff.2 ⟨h, Canon_lim a⟩
theorem resN_ok {a b : Nat} {v : Nat ⊕ Int} (ha : (lim a).length ≤ 1024) (hb : (lim b).length ≤ 1024) : resN (lim a) (lim b) v = (match v with
    | .inl n => if (lim n).length ≤ 1024 then (n, 0) else (0, 2)
    | .inr e => (0, e)) := by
  unfold resN; rw [okB_lim ha, okB_lim hb]; rfl
theorem Zch (a b : Nat) (ha : (lim a).length ≤ 1024) (hb : (lim b).length ≤ 1024) : PC C Ziz [numD a, numD b] (fun o => o = .ret (.int .i64 (cmpI a b))) := by
  have hc : resC (lim a) (lim b) = (cmpI a b, 0) := by rw [resC, okB_lim ha, okB_lim hb, val_lim, val_lim]; rfl
  refine PC.rn ZdI Zhw Zhx (rs := [.tmp 4]) (by rw [Zhy]) ?_
  refine ARun.seq (ARun.region ?_); refine zza ?_; refine AOps.nil (ARun.seq (ARun.region ?_)); refine zzm ?_; refine zzm ?_
  refine zzc rfl rfl (Zli (lim a) (lim b) (U32_lim a) (U32_lim b)) ?_
  refine zzm ?_; refine zze ?_; refine zze ?_; refine zza ?_; refine zza ?_; refine AOps.nil (ARun.seq (ARun.region ?_)); refine zzm ?_; refine zza ?_; refine AOps.nil ?_
  refine ARun.ret ?_
  refine ⟨_, _, _, .tmp rfl .nil, .cons (.same _) .nil, rfl, ?_⟩
  rw [hc]; rfl
theorem Zb4 (z : Int) : PC C Zgy [intD z] (fun o => o = .ret (intD (-z))) := by
  refine PC.rn Zct Zfp Zfq (rs := [.cell 2 27]) (by rw [Zfr]) ?_
  refine ARun.seq (ARun.region ?_); refine zzb ?_
  refine y_new rfl (Zae rfl rfl rfl rfl) ?_
  refine AOps.nil (ARun.seq (ARun.region ?_)); refine zzf ?_; refine zzl ?_; refine zzn ?_; refine zzf ?_; refine zzl ?_
  refine zzc rfl rfl (Zaf _ z.natAbs) ?_
  refine y_new rfl (Zaa rfl rfl rfl rfl rfl rfl rfl rfl (Nat.le_of_ble_eq_true rfl) rfl) ?_
  refine AOps.nil ?_
  refine ARun.ret ?_
  refine ⟨_, _, _, ResR.cellA rfl rfl rfl rfl rfl rfl .nil, .cons (.same _) .nil, rfl, ?_⟩
  have : sgnd (!decide (z < 0)) z.natAbs = -z := by
    by_cases h : z < 0
    · simp only [sgnd, decide_eq_true h, Bool.not_true, cond_false]; omega
    simp only [sgnd, decide_eq_false h, Bool.not_false, cond_true]; omega
  rw [this]; rfl
abbrev fitZ (z : Int) : Prop := (lim z.natAbs).length ≤ 1024
theorem must_add {a b n : Nat} (ha : (lim a).length ≤ 1024) (hb : (lim b).length ≤ 1024) : PC C Zay [numD (resN (lim a) (lim b) (.inl n)).1, .int .i64 (resN (lim a) (lim b) (.inl n)).2] (fun o => ((lim n).length ≤ 1024 ∧ o = .ret (numD n)) ∨ ∃ p, (¬ (lim n).length ≤ 1024 ∧ p = failW 2) ∧ o = .pan p) := by
  rw [resN_ok ha hb]
  by_cases h : (lim n).length ≤ 1024
  · simp only [if_pos h]
    exact (Zdn n).mono fun o ho => .inl ⟨h, ho⟩
  simp only [if_neg h]
  exact (ZjX 0 2).mono fun o ho => .inr ⟨failW 2, ⟨h, rfl⟩, (ho.resolve_left (fun h => absurd h.1 (by decide))).2⟩
theorem must_addZ {x y : Int} (hx : fitZ x) (hy : fitZ y) (ha : (x + y).natAbs = x.natAbs + y.natAbs) : PC C Zay [numD (resN (lim x.natAbs) (lim y.natAbs) (.inl (val (lim x.natAbs) + val (lim y.natAbs)))).1, .int .i64 (resN (lim x.natAbs) (lim y.natAbs) (.inl (val (lim x.natAbs) + val (lim y.natAbs)))).2] (fun o => (fitZ (x + y) ∧ o = .ret (numD (x.natAbs + y.natAbs))) ∨ ∃ p, (¬ fitZ (x + y) ∧ p = failW 2) ∧ o = .pan p) := by
  rw [val_lim, val_lim, fitZ, ha]
  exact must_add hx hy
theorem must_sub {a b : Nat} (ha : (lim a).length ≤ 1024) (hb : (lim b).length ≤ 1024) (h : b ≤ a) : PC C Zay [numD (resN (lim a) (lim b) (if val (lim b) ≤ val (lim a) then .inl (val (lim a) - val (lim b)) else .inr 3)).1, .int .i64 (resN (lim a) (lim b) (if val (lim b) ≤ val (lim a) then .inl (val (lim a) - val (lim b)) else .inr 3)).2] (fun o => o = .ret (numD (a - b))) := by
  rw [resN_ok ha hb, val_lim, val_lim, if_pos h]
  have : (lim (a - b)).length ≤ 1024 := Nat.le_trans (ln_mono (Nat.sub_le _ _)) ha
  simp only [if_pos this]
  exact Zdn _
theorem ZbI (x y : Int) (hx : fitZ x) (hy : fitZ y) : PC C Zgx [intD x, intD y] (fun o => (fitZ (x + y) ∧ o = .ret (intD (x + y))) ∨ (¬ fitZ (x + y) ∧ o = .pan (failW 2))) := by
  refine PC.rn Ze6 Zi9 Zja (rs := [.cell 4 27]) (by rw [Zjb]) ?_
  refine ARun.seq (ARun.region ?_); refine zzb ?_; refine zzb ?_
  refine y_new rfl (Zae rfl rfl rfl rfl) ?_
  refine AOps.nil (ARun.seq (ARun.block (ARun.seq (ARun.region ?_)))); refine zzf ?_; refine zzl ?_; refine zzf ?_; refine zzl ?_
  refine y_op rfl (ZiQ rfl rfl rfl) ?_
  refine zza ?_; refine AOps.nil ?_
  refine ARun.cond rfl (fun h => ?_) (fun h => ?_)
  · skip
    have hs : sgnd (decide (x < 0)) (x.natAbs + y.natAbs) = x + y := by
      have h' : decide (x < 0) = decide (y < 0) := by simpa using h
      by_cases h0 : x < 0
      · have : y < 0 := by rw [decide_eq_true h0] at h'; exact of_decide_eq_true h'.symm
        simp only [sgnd, decide_eq_true h0, cond_true]; omega
      have : ¬ y < 0 := by rw [decide_eq_false h0] at h'; exact of_decide_eq_false h'.symm
      simp only [sgnd, decide_eq_false h0, cond_false]; omega
    have ha : (x + y).natAbs = x.natAbs + y.natAbs := by rw [← hs, sgnd_abs]
    refine ARun.seq ?_
    refine ARun.drawnP 11 (fun q => ¬ fitZ (x + y) ∧ q = failW 2) mixC rfl rfl (by kernel_rfl) (fun _ _ h => ⟨_, _, .same _, by rw [h.2]; rfl, .inr ⟨h.1, by rw [h.2]⟩⟩) ?_
    refine .op rfl (q_fldS rfl rfl rfl (by decide)) ?_
    refine .op rfl (q_load rfl rfl rfl rfl) ?_
    refine .op rfl (q_fldS rfl rfl rfl (by decide)) ?_
    refine .op rfl (q_load rfl rfl rfl rfl) ?_
    refine .op rfl (q_fldS rfl rfl rfl (by decide)) ?_
    refine .op rfl (q_load rfl rfl rfl rfl) ?_
    refine .op rfl (q_call rfl rfl (Zh3 (lim x.natAbs) (lim y.natAbs) (U32_lim _) (U32_lim _))) ?_
    refine .op rfl (Zai rfl rfl) ?_
    refine .op rfl (Zai rfl rfl) ?_
    refine .opP rfl (g_call (g := fitZ (x + y)) (d := numD (x.natAbs + y.natAbs)) rfl rfl (must_addZ hx hy ha)) ?_
    refine .op rfl (q_call rfl rfl (Zaf _ _)) ?_
    refine .nil (fun hG => ?_)
    refine y_new rfl (Zaa rfl rfl rfl rfl rfl rfl rfl rfl (Nat.le_of_ble_eq_true rfl) rfl) ?_
    refine AOps.nil ?_
    refine ARun.ret ?_
    refine ⟨_, _, _, ResR.cellA rfl rfl rfl rfl rfl rfl .nil, .cons (.same _) .nil, rfl, ?_⟩
    rw [hs]
    exact .inl ⟨hG.2, rfl⟩
  refine ARun.seq (ARun.region ?_); refine zzf ?_; refine zzl ?_; refine zzf ?_; refine zzl ?_
  refine zzc rfl rfl (Zch x.natAbs y.natAbs hx hy) ?_
  refine zzi ?_; refine zza ?_; refine AOps.nil ?_
  refine ARun.ite rfl (fun h2 => ?_) (fun h2 => ?_)
  · skip
    have hyx : y.natAbs ≤ x.natAbs := by unfold cmpI at h2; repeat' split at h2; all_goals omega
    refine ARun.seq ?_
    refine ARun.drawnP 11 (fun _ => False) mixC rfl rfl (by kernel_rfl) (fun _ _ h => h.elim) ?_
    refine .op rfl (q_fldS rfl rfl rfl (by decide)) ?_
    refine .op rfl (q_load rfl rfl rfl rfl) ?_
    refine .op rfl (q_fldS rfl rfl rfl (by decide)) ?_
    refine .op rfl (q_load rfl rfl rfl rfl) ?_
    refine .op rfl (q_fldS rfl rfl rfl (by decide)) ?_
    refine .op rfl (q_load rfl rfl rfl rfl) ?_
    refine .op rfl (q_call rfl rfl (ZeZ (lim x.natAbs) (lim y.natAbs) (U32_lim _) (U32_lim _))) ?_
    refine .op rfl (Zai rfl rfl) ?_
    refine .op rfl (Zai rfl rfl) ?_
    refine .op rfl (q_call rfl rfl (must_sub hx hy hyx)) ?_
    refine .op rfl (q_call rfl rfl (Zaf _ _)) ?_
    refine .nil (fun hG => ?_)
    refine y_new rfl (Zaa rfl rfl rfl rfl rfl rfl rfl rfl (Nat.le_of_ble_eq_true rfl) rfl) ?_
    refine AOps.nil ?_
    refine ARun.ret ?_
    refine ⟨_, _, _, ResR.cellA rfl rfl rfl rfl rfl rfl .nil, .cons (.same _) .nil, rfl, ?_⟩
    have hs : sgnd (decide (x < 0)) (x.natAbs - y.natAbs) = x + y := by
      have h' : ¬ decide (x < 0) = decide (y < 0) := by simpa using h
      by_cases h0 : x < 0
      · have : ¬ y < 0 := fun h1 => h' (by rw [decide_eq_true h0, decide_eq_true h1])
        simp only [sgnd, decide_eq_true h0, cond_true]; omega
      have : y < 0 := by apply Classical.byContradiction; intro h1; exact h' (by rw [decide_eq_false h0, decide_eq_false h1])
      simp only [sgnd, decide_eq_false h0, cond_false]; omega
    have ha : (x + y).natAbs = x.natAbs - y.natAbs := by rw [← hs, sgnd_abs]
    rw [hs]
    exact .inl ⟨by rw [fitZ, ha]; exact Nat.le_trans (ln_mono (Nat.sub_le _ _)) hx, rfl⟩
  have hxy : x.natAbs ≤ y.natAbs := by unfold cmpI at h2; repeat' split at h2; all_goals omega
  refine ARun.skip (ARun.inBlock (ARun.seq ?_))
  refine ARun.drawnP 11 (fun _ => False) mixC rfl rfl (by kernel_rfl) (fun _ _ h => h.elim) ?_
  refine .op rfl (q_fldS rfl rfl rfl (by decide)) ?_
  refine .op rfl (q_load rfl rfl rfl rfl) ?_
  refine .op rfl (q_fldS rfl rfl rfl (by decide)) ?_
  refine .op rfl (q_load rfl rfl rfl rfl) ?_
  refine .op rfl (q_fldS rfl rfl rfl (by decide)) ?_
  refine .op rfl (q_load rfl rfl rfl rfl) ?_
  refine .op rfl (q_call rfl rfl (ZeZ (lim y.natAbs) (lim x.natAbs) (U32_lim _) (U32_lim _))) ?_
  refine .op rfl (Zai rfl rfl) ?_
  refine .op rfl (Zai rfl rfl) ?_
  refine .op rfl (q_call rfl rfl (must_sub hy hx hxy)) ?_
  refine .op rfl (q_call rfl rfl (Zaf _ _)) ?_
  refine .nil (fun hG => ?_)
  refine y_new rfl (Zaa rfl rfl rfl rfl rfl rfl rfl rfl (Nat.le_of_ble_eq_true rfl) rfl) ?_
  refine AOps.nil ?_
  refine ARun.ret ?_
  refine ⟨_, _, _, ResR.cellA rfl rfl rfl rfl rfl rfl .nil, .cons (.same _) .nil, rfl, ?_⟩
  have hs : sgnd (decide (y < 0)) (y.natAbs - x.natAbs) = x + y := by
    have h' : ¬ decide (x < 0) = decide (y < 0) := by simpa using h
    by_cases h0 : x < 0
    · have : ¬ y < 0 := fun h1 => h' (by rw [decide_eq_true h0, decide_eq_true h1])
      simp only [sgnd, decide_eq_false this, cond_false]; omega
    have : y < 0 := by apply Classical.byContradiction; intro h1; exact h' (by rw [decide_eq_false h0, decide_eq_false h1])
    simp only [sgnd, decide_eq_true this, cond_true]; omega
  have ha : (x + y).natAbs = y.natAbs - x.natAbs := by rw [← hs, sgnd_abs]
  rw [hs]
  exact .inl ⟨by rw [fitZ, ha]; exact Nat.le_trans (ln_mono (Nat.sub_le _ _)) hy, rfl⟩
end Go.V
set_option synthInstance.maxSize 100000
set_option synthInstance.maxHeartbeats 2000000
namespace Go.V
open Go.RowKit Go.Proofs
theorem ZlU (xs : List Nat) (hx : xs.length ≤ 35184372088832) : PC C Zbw [sln .u32 xs] (fun o => o = .ret (sln .u32 xs)) := by
  refine PC.rn ZaA Zbr Zbs (rs := [.tmp 2]) (by rw [Zbt]) ?_
  refine ARun.seq (ARun.region ?_); refine zza ?_; refine AOps.nil (ARun.seq (ARun.seq (ARun.region ?_))); refine zzm ?_
  refine ZlN rfl rfl rfl rfl rfl (fun b hb => ?_)
  refine AOps.nil ?_
  refine ARun.cond rfl (fun h => ?_) (fun h => ?_)
  · skip
    refine ARun.seq (ARun.region ?_); refine zza ?_; refine AOps.nil ?_
    refine ARun.ret ?_
    refine ⟨_, _, _, .tmp rfl .nil, .cons .nil .nil, rfl, ?_⟩
    rw [sl_nil (hb h)]
    rfl
  refine ARun.skip (ARun.seq (ARun.region ?_))
  refine y_new rfl (Zaj rfl rfl rfl rfl rfl rfl rfl rfl rfl rfl rfl (by decide) (by decide)) ?_
  refine zzm ?_
  refine y_new rfl (Zf6 rfl rfl (by decide) rfl rfl rfl rfl rfl rfl rfl rfl rfl rfl (by simp) (by simp; omega) (by rw [maxLen_eq]; omega) rfl) ?_
  refine zza ?_; refine AOps.nil ?_
  refine ARun.ret ?_
  refine ⟨_, _, _, .tmp rfl .nil, .cons (.row rfl (pures_nts _)) .nil, rfl, ?_⟩
  simp [tupD]
end Go.V
set_option synthInstance.maxSize 100000
set_option synthInstance.maxHeartbeats 2000000
namespace Go.V
open Go.RowKit Go.Proofs
theorem ZlV (z : Int) (hz : (lim z.natAbs).length ≤ 35184372088832) : PC C Zgz [intD z] (fun o => o = .ret (intD z)) := by
  refine PC.rn Ze7 Zjc Zjd (rs := [.cell 2 27]) (by rw [Zje]) ?_
  refine ARun.seq (ARun.region ?_); refine zzb ?_
  refine y_new rfl (Zae rfl rfl rfl rfl) ?_
  refine AOps.nil (ARun.seq ?_)
  refine ARun.drawnP 6 (fun _ => False) mixC rfl rfl (by kernel_rfl) (fun _ _ h => h.elim) ?_
  refine .op rfl (q_fldS rfl rfl rfl (by decide)) ?_
  refine .op rfl (q_load rfl rfl rfl rfl) ?_
  refine .op rfl (q_fldS rfl rfl rfl (by decide)) ?_
  refine .op rfl (q_load rfl rfl rfl rfl) ?_
  refine .op rfl (q_call rfl rfl (ZlU (lim z.natAbs) hz)) ?_
  refine .op rfl (Zap rfl rfl rfl rfl rfl) ?_
  refine .nil (fun hG => ?_)
  refine y_new rfl (Zaa rfl rfl rfl rfl rfl rfl rfl rfl (Nat.le_of_ble_eq_true rfl) rfl) ?_
  refine AOps.nil ?_
  refine ARun.ret ?_
  refine ⟨_, _, _, ResR.cellA rfl rfl rfl rfl rfl rfl .nil, .cons (.same _) .nil, rfl, ?_⟩
  rfl
theorem Zb5 (z : Int) (hz : fitZ z) : PC C Zgz [intD z] (fun o => o = .ret (intD z)) := ZlV z (by unfold fitZ at hz; omega)
theorem must_mul {x y : Int} (hx : fitZ x) (hy : fitZ y) : PC C Zay [numD (resN (lim x.natAbs) (lim y.natAbs) (.inl (val (lim x.natAbs) * val (lim y.natAbs)))).1, .int .i64 (resN (lim x.natAbs) (lim y.natAbs) (.inl (val (lim x.natAbs) * val (lim y.natAbs)))).2] (fun o => (fitZ (x * y) ∧ o = .ret (numD (x.natAbs * y.natAbs))) ∨ ∃ p, (¬ fitZ (x * y) ∧ p = failW 2) ∧ o = .pan p) := by
  rw [val_lim, val_lim, fitZ, Int.natAbs_mul]
  exact must_add hx hy
theorem Zfh (x y : Int) (hx : fitZ x) (hy : fitZ y) : PC C ZgS [intD x, intD y] (fun o => (fitZ (x * y) ∧ o = .ret (intD (x * y))) ∨ (¬ fitZ (x * y) ∧ o = .pan (failW 2))) := by
  have hs : sgnd (!(decide (x < 0) == decide (y < 0))) (x.natAbs * y.natAbs) = x * y := by
    rw [← Int.natAbs_mul]
    by_cases h1 : x < 0 <;> by_cases h2 : y < 0
    · have := Int.mul_pos_of_neg_of_neg h1 h2
      simp only [sgnd, decide_eq_true h1, decide_eq_true h2, beq_self_eq_true, Bool.not_true, cond_false]; omega
    · have := Int.mul_nonpos_of_nonpos_of_nonneg (Int.le_of_lt h1) (Int.not_lt.1 h2)
      simp only [sgnd, decide_eq_true h1, decide_eq_false h2, show (!(true == false)) = true from rfl, cond_true]; omega
    · have := Int.mul_nonpos_of_nonneg_of_nonpos (Int.not_lt.1 h1) (Int.le_of_lt h2)
      simp only [sgnd, decide_eq_false h1, decide_eq_true h2, show (!(false == true)) = true from rfl, cond_true]; omega
    have := Int.mul_nonneg (Int.not_lt.1 h1) (Int.not_lt.1 h2)
    simp only [sgnd, decide_eq_false h1, decide_eq_false h2, beq_self_eq_true, Bool.not_true, cond_false]; omega
  refine PC.rn ZcF ZfV ZfW (rs := [.cell 4 27]) (by rw [ZfX]) ?_
  refine ARun.seq (ARun.region ?_); refine zzb ?_; refine zzb ?_
  refine y_new rfl (Zae rfl rfl rfl rfl) ?_
  refine AOps.nil (ARun.seq ?_)
  refine ARun.drawnP 14 (fun q => ¬ fitZ (x * y) ∧ q = failW 2) mixC rfl rfl (by kernel_rfl) (fun _ _ h => ⟨_, _, .same _, by rw [h.2]; rfl, .inr ⟨h.1, by rw [h.2]⟩⟩) ?_
  refine .op rfl (q_fldS rfl rfl rfl (by decide)) ?_
  refine .op rfl (q_load rfl rfl rfl rfl) ?_
  refine .op rfl (q_fldS rfl rfl rfl (by decide)) ?_
  refine .op rfl (q_load rfl rfl rfl rfl) ?_
  refine .op rfl (Zbd rfl rfl rfl) ?_
  refine .op rfl (q_fldS rfl rfl rfl (by decide)) ?_
  refine .op rfl (q_load rfl rfl rfl rfl) ?_
  refine .op rfl (q_fldS rfl rfl rfl (by decide)) ?_
  refine .op rfl (q_load rfl rfl rfl rfl) ?_
  refine .op rfl (q_call rfl rfl (Zh4 (lim x.natAbs) (lim y.natAbs) (U32_lim _) (U32_lim _))) ?_
  refine .op rfl (Zai rfl rfl) ?_
  refine .op rfl (Zai rfl rfl) ?_
  refine .opP rfl (g_call (g := fitZ (x * y)) (d := numD (x.natAbs * y.natAbs)) rfl rfl (must_mul hx hy)) ?_
  refine .op rfl (q_call rfl rfl (Zaf _ _)) ?_
  refine .nil (fun hG => ?_)
  refine y_new rfl (Zaa rfl rfl rfl rfl rfl rfl rfl rfl (Nat.le_of_ble_eq_true rfl) rfl) ?_
  refine AOps.nil ?_
  refine ARun.ret ?_
  refine ⟨_, _, _, ResR.cellA rfl rfl rfl rfl rfl rfl .nil, .cons (.same _) .nil, rfl, ?_⟩
  rw [hs]
  exact .inl ⟨hG.2, rfl⟩
theorem ZlW (z : Int) : PC C Zjv [intD z] (fun o => o = .ret (.int .i64 z.sign)) := by
  refine PC.rn Zel ZiF ZiG (rs := [.tmp 2]) (by rw [ZiH]) ?_
  refine ARun.seq (ARun.region ?_); refine zzb ?_; refine zza ?_; refine AOps.nil (ARun.seq (ARun.block (ARun.seq (ARun.region ?_)))); refine zzf ?_; refine zzl ?_; refine zza ?_; refine AOps.nil ?_
  refine ARun.ite rfl (fun h => ?_) (fun h => ?_)
  · skip
    refine ARun.seq (ARun.region ?_); refine zza ?_; refine AOps.nil ?_
    refine ARun.ret ?_
    refine ⟨_, _, _, .tmp rfl .nil, .cons (.same _) .nil, rfl, ?_⟩
    rw [Int.sign_eq_neg_one_of_neg h]; rfl
  refine ARun.seq (ARun.region ?_); refine zzf ?_; refine zzl ?_; refine zzN ?_; refine zzi ?_; refine zza ?_; refine AOps.nil ?_
  refine ARun.ite rfl (fun h2 => ?_) (fun h2 => ?_)
  · skip
    refine ARun.seq (ARun.region ?_); refine zza ?_; refine AOps.nil ?_
    refine ARun.ret ?_
    refine ⟨_, _, _, .tmp rfl .nil, .cons (.same _) .nil, rfl, ?_⟩
    have : z.natAbs ≠ 0 := ln_pos.1 (by omega)
    rw [Int.sign_eq_one_of_pos (by omega)]; rfl
  refine ARun.skip (ARun.inBlock (ARun.seq (ARun.region ?_))); refine zza ?_; refine AOps.nil ?_
  refine ARun.ret ?_
  refine ⟨_, _, _, .tmp rfl .nil, .cons (.same _) .nil, rfl, ?_⟩
  have : z.natAbs = 0 := by
    apply Classical.byContradiction
    intro hn
    have := ln_pos.2 hn
    omega
  rw [show z = 0 by omega]; rfl
def cmpZ (x y : Int) : Int := if x < y then -1 else if x = y then 0 else 1
theorem Zmq (x y : Int) (hx : fitZ x) (hy : fitZ y) : PC C Zkp [intD x, intD y] (fun o => o = .ret (.int .i64 (cmpZ x y))) := by
  refine PC.rn Zfc Zjw Zjx (rs := [.tmp 4]) (by rw [Zjy]) ?_
  refine ARun.seq (ARun.region ?_); refine zzb ?_; refine zzb ?_; refine zza ?_; refine AOps.nil (ARun.seq (ARun.block (ARun.seq (ARun.region ?_)))); refine zzf ?_; refine zzl ?_; refine zzf ?_; refine zzl ?_
  refine y_op rfl (Zbd rfl rfl rfl) ?_
  refine zzm ?_
  refine AOps.bool 11 rfl (fun h1 => ?_) (fun h1 => ?_)
  · skip
    have h1' : ¬ decide (x < 0) = decide (y < 0) := by simpa using h1
    refine zzf ?_; refine zzl ?_; refine zzp ?_; refine zza ?_; refine AOps.nil ?_
    refine ARun.cond rfl (fun h2 => ?_) (fun h2 => ?_)
    · skip
      refine ARun.seq (ARun.region ?_); refine zza ?_; refine AOps.nil ?_
      refine ARun.ret ?_
      refine ⟨_, _, _, .tmp rfl .nil, .cons (.same _) .nil, rfl, ?_⟩
      have h2 : x < 0 := of_decide_eq_true h2
      have hy : ¬ y < 0 := fun h => h1' (by rw [decide_eq_true h2, decide_eq_true h])
      unfold cmpZ; rw [if_pos (by omega)]; rfl
    have h2 : ¬ x < 0 := of_decide_eq_false h2
    have hy : y < 0 := by apply Classical.byContradiction; intro h; exact h1' (by rw [decide_eq_false h2, decide_eq_false h])
    refine ARun.seq (ARun.region ?_); refine zzf ?_; refine zzl ?_; refine zzf ?_; refine zzl ?_
    refine y_op rfl (Zbd rfl rfl rfl) ?_
    refine zza ?_; refine AOps.nil ?_
    refine ARun.cond rfl (fun h3 => ?_) (fun h3 => ?_)
    · skip
      refine ARun.seq (ARun.region ?_); refine zza ?_; refine AOps.nil ?_
      refine ARun.ret ?_
      refine ⟨_, _, _, .tmp rfl .nil, .cons (.same _) .nil, rfl, ?_⟩
      unfold cmpZ; rw [if_neg (by omega), if_neg (by omega)]; rfl
    rw [h1] at h3; cases h3
  have h1' : decide (x < 0) = decide (y < 0) := by simpa using h1
  refine zzk ?_; refine zzk ?_; refine zzp ?_; refine zza ?_; refine AOps.nil ?_
  refine ARun.condF rfl ?_
  refine ARun.seq (ARun.region ?_); refine zzf ?_; refine zzl ?_; refine zzf ?_; refine zzl ?_
  refine y_op rfl (Zbd rfl rfl rfl) ?_
  refine zza ?_; refine AOps.nil ?_
  refine ARun.cond rfl (fun h3 => ?_) (fun h3 => ?_)
  · skip
    rw [h1] at h3; cases h3
  refine ARun.seq (ARun.region ?_); refine zzf ?_; refine zzl ?_; refine zza ?_; refine AOps.nil ?_
  refine ARun.ite rfl (fun h4 => ?_) (fun h4 => ?_)
  · skip
    refine ARun.seq (ARun.region ?_); refine zzf ?_; refine zzl ?_; refine zzf ?_; refine zzl ?_
    refine zzc rfl rfl (Zch y.natAbs x.natAbs hy hx) ?_
    refine zza ?_; refine AOps.nil ?_
    refine ARun.ret ?_
    refine ⟨_, _, _, .tmp rfl .nil, .cons (.same _) .nil, rfl, ?_⟩
    have hy : y < 0 := by rw [decide_eq_true h4] at h1'; exact of_decide_eq_true h1'.symm
    have : cmpI y.natAbs x.natAbs = cmpZ x y := by unfold cmpI cmpZ; repeat' split; all_goals omega
    rw [this]; rfl
  refine ARun.skip (ARun.inBlock (ARun.seq (ARun.region ?_))); refine zzf ?_; refine zzl ?_; refine zzf ?_; refine zzl ?_
  refine zzc rfl rfl (Zch x.natAbs y.natAbs hx hy) ?_
  refine zza ?_; refine AOps.nil ?_
  refine ARun.ret ?_
  refine ⟨_, _, _, .tmp rfl .nil, .cons (.same _) .nil, rfl, ?_⟩
  have hy : ¬ y < 0 := by rw [decide_eq_false h4] at h1'; exact of_decide_eq_false h1'.symm
  have : cmpI x.natAbs y.natAbs = cmpZ x y := by unfold cmpI cmpZ; repeat' split; all_goals omega
  rw [this]; rfl
end Go.V
set_option synthInstance.maxSize 100000
set_option synthInstance.maxHeartbeats 2000000
namespace Go.V
open Go.RowKit Go.Proofs
def cellsI : List (Bool × List Nat) → List D
  | [] => []
  | p :: l => .bool p.1 :: sln .u32 p.2 :: cellsI l
theorem cellsI_len : ∀ l : List (Bool × List Nat), (cellsI l).length = l.length * 2
  | [] => rfl
  | p :: l => by simp only [cellsI, List.length_cons, cellsI_len l]; omega
theorem cellsI_drop : ∀ (l : List (Bool × List Nat)) (i : Nat), (cellsI l).drop (i * 2) = cellsI (l.drop i)
  | l, 0 => by simp
  | [], i + 1 => by simp [cellsI]
  | p :: l, i + 1 => by
    rw [show (i + 1) * 2 = i * 2 + 1 + 1 by omega]
    simp only [cellsI, List.drop_succ_cons]
    exact cellsI_drop l i
def idxI (p : Bool × List Nat → Bool) : List (Bool × List Nat) → Nat → Int
  | [], _ => -1
  | d :: ds, i => bif p d then (i : Int) else idxI p ds (i + 1)
theorem idxI_any (p : Bool × List Nat → Bool) : ∀ (ds : List (Bool × List Nat)) (i : Nat), decide (idxI p ds i ≥ 0) = ds.any p
  | [], _ => by simp [idxI]
  | d :: ds, i => by
    simp only [idxI, List.any_cons]
    have ih := idxI_any p ds (i + 1)
    by_cases h : p d = true
    · simp [h]
    simp only [Bool.not_eq_true] at h
    simp only [h, cond_false, Bool.false_or]
    exact ih
theorem ZlX (l : List (Bool × List Nat)) (n : Nat) (hn : l.length = n) (f : FuncId) (p : Bool × List Nat → Bool) (hf : ∀ d ∈ l, PC C f [intA d.1 d.2] (fun o => o = .ret (.bool (p d)))) : PC C Za9 [.sl n (cellsI l), .clos f []] (fun o => o = .ret (.int .i64 (idxI p l 0))) := by
  refine PC.rn Zar ZaY ZaZ (rs := [.tmp 4]) (by rw [Za0]) ?_
  refine ARun.lenle 0 rfl (fun hlen => ?_)
  rw [maxLen_eq] at hlen
  refine ARun.seq (ARun.region ?_); refine zza ?_; refine AOps.nil (ARun.seq (ARun.seq (ARun.region ?_))); refine zzm ?_; refine zzN ?_; refine zzm ?_; refine AOps.nil (ARun.block ?_)
  refine ARun.loopI (S := Nat) (fun i : Nat => [(4, .any), (5, .any), (9, .any), (10, .any), (11, .any), (12, .any), (13, .any), (14, .any), (15, .any), (16, .any), (17, .any), (18, .any), (8, .int .i64 (i : Int))]) (fun i : Nat => []) (fun i : Nat => i ≤ n ∧ idxI p (l.drop i) i = idxI p l 0) (fun i : Nat => n - i) (0) ?_ ?_ ?_ ?_
  · exact ⟨Nat.zero_le _, rfl⟩
  · (repeat' first | exact envLe_nil | apply envLe_any | apply envLe_same)
  · rfl
  rintro i hinv ih
  obtain ⟨hi, he⟩ := hinv
  refine ARun.seq (ARun.region ?_); refine zzi ?_; refine AOps.nil (ARun.seq ?_)
  refine ARun.ite rfl (fun h => ?_) (fun h => ?_)
  · skip
    have hlt : i < l.length := by omega
    have hdr : l.drop i = l[i] :: l.drop (i + 1) := List.drop_eq_getElem_cons hlt
    have hcd := cellsI_drop l i
    rw [hdr] at hcd
    have hx : idxI p (l.drop i) i = bif p l[i] then (i : Int) else idxI p (l.drop (i + 1)) (i + 1) := by rw [hdr]; rfl
    refine ARun.skip (ARun.seq (ARun.block (ARun.seq (ARun.region ?_)))); refine zzm ?_; refine zza ?_; refine AOps.nil (ARun.seq (ARun.region ?_)); refine zzm ?_; refine zzm ?_; refine zzm ?_
    refine y_op rfl (Zag rfl rfl rfl rfl (by omega) (by omega) (fun e => by have := cellsI_len l; rw [e] at this; simp at this; omega) hcd) ?_
    refine y_op rfl (Zbe (ds := [.bool l[i].1, sln .u32 l[i].2]) rfl rfl rfl rfl rfl) ?_
    refine zzc rfl rfl (hf l[i] (List.getElem_mem hlt)) ?_
    refine AOps.nil ?_
    refine ARun.cond rfl (fun hp => ?_) (fun hp => ?_)
    · skip
      refine ARun.seq (ARun.region ?_); refine zzm ?_; refine zza ?_; refine AOps.nil ?_
      refine ARun.ret ?_
      refine ⟨_, _, _, .tmp rfl .nil, .cons (.same _) .nil, rfl, ?_⟩
      rw [← he, hx, hp]
      rfl
    refine ARun.skip (ARun.inBlock (ARun.region ?_))
    refine y_op rfl (q_add rfl rfl (nadd1_i64 (by omega))) ?_
    refine zzm ?_; refine AOps.nil ?_
    refine ARun.again (ih ((i + 1)) ?_ ?_) ?_ ?_
    · exact ⟨by omega, by rw [← he, hx, hp]; rfl⟩
    · omega
    · (repeat' first | exact envLe_nil | apply envLe_any | apply envLe_same)
    rfl
  refine ARun.exit rfl ?_
  refine ARun.seq (ARun.region ?_); refine zza ?_; refine AOps.nil ?_
  refine ARun.ret ?_
  refine ⟨_, _, _, .tmp rfl .nil, .cons (.same _) .nil, rfl, ?_⟩
  rw [← he, List.drop_of_length_le (by omega)]
  rfl
theorem ZjY (l : List (Bool × List Nat)) (n : Nat) (hn : l.length = n) (f : FuncId) (p : Bool × List Nat → Bool) (hf : ∀ d ∈ l, PC C f [intA d.1 d.2] (fun o => o = .ret (.bool (p d)))) : PC C ZaQ [.sl n (cellsI l), .clos f []] (fun o => o = .ret (.bool (l.any p))) := by
  refine PC.rn Zal ZaJ ZaK (rs := [.tmp 4]) (by rw [ZaL]) ?_
  refine ARun.seq (ARun.region ?_); refine zza ?_; refine AOps.nil (ARun.seq (ARun.region ?_)); refine zzm ?_; refine zzm ?_
  refine zzc rfl rfl (ZlX l n hn f p hf) ?_
  refine zzi ?_; refine zza ?_; refine AOps.nil ?_
  refine ARun.ret ?_
  refine ⟨_, _, _, .tmp rfl .nil, .cons (.same _) .nil, rfl, ?_⟩
  rw [idxI_any]; rfl
def okI (d : Bool × List Nat) : Bool := okB d.2 && (!d.1 || decide (0 < d.2.length))
theorem Ze1 (d : Bool × List Nat) : PC C Zio [intA d.1 d.2] (fun o => o = .ret (.bool (okI d))) := by
  obtain ⟨b, xs⟩ := d
  refine PC.rn ZdC Zhq Zhr (rs := [.tmp 2]) (by rw [Zhs]) ?_
  refine ARun.seq (ARun.region ?_); refine zzb ?_; refine zza ?_; refine AOps.nil (ARun.seq (ARun.region ?_)); refine zzf ?_; refine zzl ?_
  refine zzc rfl rfl (Zb1 xs (okNatDec xs)) ?_
  refine zzm ?_
  refine AOps.bool 6 rfl (fun h1 => ?_) (fun h1 => ?_)
  · skip
    have h1 : okB xs = true := h1
    refine zzf ?_; refine zzl ?_; refine zzn ?_; refine zzm ?_
    refine AOps.bool 10 rfl (fun h2 => ?_) (fun h2 => ?_)
    · skip
      have h2 : b = false := by simpa using h2
      refine zzk ?_; refine zzk ?_; refine zzk ?_; refine zzk ?_; refine zzp ?_; refine zzp ?_; refine zza ?_; refine AOps.nil ?_
      refine ARun.ret ?_
      refine ⟨_, _, _, .tmp rfl .nil, .cons (.same _) .nil, rfl, ?_⟩
      unfold okI; rw [h1, h2]; rfl
    have h2 : b = true := by simpa using h2
    refine zzf ?_; refine zzl ?_; refine zzN ?_; refine zzi ?_; refine zzp ?_; refine zzp ?_; refine zza ?_; refine AOps.nil ?_
    refine ARun.ret ?_
    refine ⟨_, _, _, .tmp rfl .nil, .cons (.same _) .nil, rfl, ?_⟩
    unfold okI; rw [h1, h2]
    have : decide ((xs.length : Int) > 0) = decide (0 < xs.length) := decide_eq_decide.2 (by omega)
    simp only [this, Bool.not_true, Bool.false_or, Bool.true_and, cond_true, cond_false]
    rfl
  have h1 : okB xs = false := h1
  refine zzk ?_; refine zzk ?_; refine zzk ?_; refine zzk ?_; refine zzk ?_; refine zzk ?_; refine zzk ?_; refine zzk ?_; refine zzk ?_; refine zzp ?_; refine zza ?_; refine AOps.nil ?_
  refine ARun.ret ?_
  refine ⟨_, _, _, .tmp rfl .nil, .cons (.same _) .nil, rfl, ?_⟩
  unfold okI; rw [h1]; rfl
theorem Zkv (d : Bool × List Nat) : PC C ZdL [intA d.1 d.2] (fun o => o = .ret (.bool (!okI d))) := by
  refine PC.rn Zdb ZgK ZgL (rs := [.tmp 2]) (by rw [ZgM]) ?_
  refine ARun.seq (ARun.region ?_); refine zzb ?_; refine zza ?_; refine AOps.nil (ARun.seq (ARun.region ?_)); refine zzL ?_
  refine zzc rfl rfl (Ze1 d) ?_
  refine zzn ?_; refine zza ?_; refine AOps.nil ?_
  refine ARun.ret ?_
  refine ⟨_, _, _, .tmp rfl .nil, .cons (.same _) .nil, rfl, ?_⟩
  rfl
theorem Zg5 (l : List (Bool × List Nat)) (n : Nat) (hn : l.length = n) : PC C Zjf [.sl n (cellsI l)] (fun o => (l.all okI = true ∧ o = .ret (.tup [])) ∨ (l.all okI = false ∧ o = .pan (failW 1))) := by
  have he : l.any (fun d => !okI d) = !l.all okI := by
    clear hn
    induction l with
    | nil => rfl
    | cons x l ih => simp only [List.any_cons, List.all_cons, ih, Bool.not_and]
  refine PC.rn Zej ZiA ZiB (rs := []) (by rw [ZiC]) ?_
  refine ARun.region ?_; refine zzm ?_
  refine zzc rfl rfl (ZjY l n hn ZdL (fun d => !okI d) (fun d _ => Zkv d)) ?_
  refine zzn ?_
  refine y_gop rfl (g_call rfl rfl (PC.gp (ZaI _ 1))) (fun hg => ?_) (fun q hq => by obtain ⟨hq, rfl⟩ := hq; exact ⟨_, _, .same _, rfl, .inr ⟨by rw [he, Bool.not_not] at hq; exact hq, rfl⟩⟩)
  refine AOps.nil ?_
  refine ARun.nil ?_
  refine ⟨_, _, _, .nil, .nil, rfl, ?_⟩
  exact .inl ⟨by rw [he, Bool.not_not] at hg; exact hg, rfl⟩
end Go.V
set_option synthInstance.maxSize 100000
set_option synthInstance.maxHeartbeats 2000000
namespace Go.V
open Go.RowKit Go.Proofs
abbrev failO (e : Int) : Option AObj := some ⟨[.int .i64 e], ZcV, 1, true, none⟩
abbrev errO (e : Int) : Option AObj := some ⟨[.int .i64 e], Zah, 1, true, none⟩
theorem dcw_ret (H : Heap) (i : Nat) : DC C ZaV H [.ptr i 0] .returning (fun m' H' => m' = .returning ∧ H' = H) := by
  refine DC.of_run1 ZbN Zc7 rfl Zc8 (by rw [Zc9]) (fun _ h => by cases h) (by simp only [List.length_cons, List.length_nil, Nat.reduceAdd, Nat.reduceSub, List.replicate_succ, List.replicate_zero, List.cons_append, List.nil_append, recD, envPut, List.set_cons_succ, List.set_cons_zero]; exact rfl) ?_
  refine ARun.block (ARun.seq (ARun.region ?_))
  refine y_op rfl (ZjW (by kernel_rfl) rfl) ?_
  refine AOps.nil ?_
  refine ARun.condT rfl ?_
  refine ARun.region ?_; refine zza ?_; refine AOps.nil (ARun.inBlock ?_)
  refine ARun.nil ?_
  exact ⟨rfl, rfl, rfl⟩
theorem dcw_pan (H : Heap) (i : Nat) (e0 e : Int) (h : H[i]? = some (errO e0)) : DC C ZaV H [.ptr i 0] (.panicking (failW e)) (fun m' H' => m' = .recovered (failW e) ∧ H' = ((H ++ [failO e]).set i (errO e) : Heap)) := by
  have hi : i < H.length := (List.getElem?_eq_some_iff.1 h).1
  have hl : (H ++ [failO e])[i]? = some (errO e0) := by rw [List.getElem?_append_left hi]; exact h
  have hn : ∀ o : AObj, (H ++ [some o])[H.length]? = some (some o) := fun o => by simp
  have hs : ∀ o o' : AObj, (H ++ [some o]).set H.length (some o') = H ++ [some o'] := fun o o' => by
    rw [List.set_append_right _ _ (Nat.le_refl _), Nat.sub_self]; rfl
  refine DC.of_run1 ZbN Zc7 rfl Zc8 (by rw [Zc9]) (fun _ h => by cases h) (by simp only [List.length_cons, List.length_nil, Nat.reduceAdd, Nat.reduceSub, List.replicate_succ, List.replicate_zero, List.cons_append, List.nil_append, recD, envPut, List.set_cons_succ, List.set_cons_zero]; exact rfl) ?_
  refine ARun.block (ARun.seq (ARun.region ?_))
  refine y_op rfl (q_ifEq (by kernel_rfl) rfl) ?_
  refine AOps.nil ?_
  refine ARun.condF rfl ?_
  refine ARun.seq (ARun.region ?_)
  refine y_op rfl (Zcg rfl rfl rfl) ?_
  refine zze ?_; refine zze ?_; refine AOps.nil ?_
  refine ARun.condT rfl ?_
  refine ARun.seq (ARun.region ?_)
  refine y_new rfl (Zae rfl rfl rfl rfl) ?_
  refine y_new rfl (Zaa rfl rfl rfl rfl rfl rfl (hn _) rfl (Nat.le_of_ble_eq_true rfl) rfl) (AOps.hp (hs _ _) ?_)
  refine AOps.nil (ARun.region ?_); refine zzm ?_
  refine y_op rfl (q_fldP rfl rfl rfl (by decide)) ?_
  refine y_op rfl (Zac rfl rfl rfl (hn _) rfl) ?_
  refine y_op rfl (q_nil rfl rfl) ?_
  refine y_new rfl (Zad rfl rfl rfl rfl hl rfl (Nat.le_of_ble_eq_true rfl) rfl) ?_
  refine AOps.nil (ARun.inBlock ?_)
  refine ARun.nil ?_
  exact ⟨rfl, rfl, rfl⟩
end Go.V
