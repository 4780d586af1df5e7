/- A part of the proof: abstract values, rules for the steps of the program's form, and contracts of its functions, each proved; no condition. -/
import Derived.Test.YthankfodgdfgaaaDoorA08
set_option linter.unusedVariables false
set_option linter.unusedSimpArgs false
set_option linter.unnecessarySimpa false
set_option maxHeartbeats 4000000
set_option maxRecDepth 100000
set_option synthInstance.maxSize 100000
set_option synthInstance.maxHeartbeats 2000000
namespace Go.V
open Go.RowKit Go.Proofs
/-! strings.Builder: a struct that points to itself, and a row of bytes that grows. -/
abbrev bldO (p d : D) : Option AObj := some ⟨[p, d], ZaP, 1, true, none⟩
theorem heap_set_self {H : Heap} {k : Nat} {x : Option AObj} (h : H[k]? = some x) : H.set k x = H := by
  apply List.ext_getElem?
  intro m
  rw [List.getElem?_set]
  split
  · rename_i e; subst e; rw [h, if_pos (List.getElem?_eq_some_iff.1 h).1]
  rfl
theorem heap_set_get {H : Heap} {k : Nat} {x y : Option AObj} (h : H[k]? = some x) : (H.set k y)[k]? = some y := by
  rw [List.getElem?_set, if_pos rfl, if_pos (List.getElem?_eq_some_iff.1 h).1]
theorem ptrB : C.P.underlying Zbx = some (.pointer (C.P.pointee Zbx)) := by kernel_rfl
theorem ZeR (H : Heap) (k : Nat) (d : D) (hk : H[k]? = some (bldO .nilptr d)) : HC C Zau H [.ptr k 0] (fun x H' => x = .ret (.tup []) ∧ H' = H.set k (bldO (.ptr k 0) d)) := by
  refine HC.run Zas ZaK rfl ZaL (rs := []) (by rw [ZaM]) (by simp only [List.length_cons, List.length_nil, Nat.reduceAdd, Nat.reduceSub, List.replicate_succ, List.replicate_zero, List.cons_append, List.nil_append]; exact rfl) ?_
  refine ARun.seq (ARun.region ?_); refine zzm ?_
  refine y_op rfl (q_nil rfl rfl) ?_
  refine y_op rfl (q_fldP rfl rfl rfl (by decide)) ?_
  refine y_op rfl (Zaa rfl rfl rfl hk rfl) ?_
  refine y_op rfl (Zgm ptrB rfl rfl) ?_
  refine AOps.nil ?_
  refine ARun.condT rfl ?_
  refine ARun.region ?_; refine zzm ?_; refine zzm ?_
  refine y_op rfl (ZfN (e := ZaP) (by kernel_rfl) (by kernel_rfl) rfl (by decide) rfl hk rfl (Nat.le_of_ble_eq_true rfl)) ?_
  refine y_op rfl (ZfO (fn := Tryd.f88) Tryd.func88 (by kernel_rfl) (by kernel_rfl) (by kernel_rfl) (by kernel_rfl) rfl rfl) ?_
  refine y_op rfl (Zfe (e := ZaP) (by kernel_rfl) (by kernel_rfl) rfl (by kernel_rfl) (by decide) (by kernel_rfl) rfl hk rfl rfl (Nat.le_of_ble_eq_true rfl)) ?_
  refine y_op rfl (q_nil rfl rfl) ?_
  refine y_op rfl (q_fldP rfl rfl rfl (by decide)) ?_
  refine y_new rfl (Zac rfl rfl rfl rfl hk rfl (Nat.le_of_ble_eq_true rfl) rfl) ?_
  refine AOps.nil ?_
  refine ARun.nil ?_
  exact ⟨_, _, _, .nil, .nil, rfl, rfl⟩
theorem ZeS (H : Heap) (k : Nat) (d : D) (hk : H[k]? = some (bldO (.ptr k 0) d)) : HC C Zau H [.ptr k 0] (fun x H' => x = .ret (.tup []) ∧ H' = H.set k (bldO (.ptr k 0) d)) := by
  refine HC.run Zas ZaK rfl ZaL (rs := []) (by rw [ZaM]) (by simp only [List.length_cons, List.length_nil, Nat.reduceAdd, Nat.reduceSub, List.replicate_succ, List.replicate_zero, List.cons_append, List.nil_append]; exact rfl) ?_
  refine ARun.seq (ARun.region ?_); refine zzm ?_
  refine y_op rfl (q_nil rfl rfl) ?_
  refine y_op rfl (q_fldP rfl rfl rfl (by decide)) ?_
  refine y_op rfl (Zaa rfl rfl rfl hk rfl) ?_
  refine y_op rfl (Zgl ptrB rfl rfl) ?_
  refine AOps.nil ?_
  refine ARun.condF rfl ?_
  refine ARun.seq (ARun.region ?_); refine zzm ?_
  refine y_op rfl (q_nil rfl rfl) ?_
  refine y_op rfl (q_fldP rfl rfl rfl (by decide)) ?_
  refine y_op rfl (Zaa rfl rfl rfl hk rfl) ?_
  refine zzm ?_
  refine y_op rfl (Zft (e := ZaP) (by kernel_rfl) rfl rfl rfl) ?_
  refine AOps.nil ?_
  refine ARun.condF rfl ?_
  refine ARun.skip ?_
  refine ARun.nil ?_
  exact ⟨_, _, _, .nil, .nil, rfl, (heap_set_self hk).symm⟩
theorem Za6 (H : Heap) (k : Nat) (p d : D) (hp : p = .nilptr ∨ p = .ptr k 0) (hk : H[k]? = some (bldO p d)) : HC C Zau H [.ptr k 0] (fun x H' => x = .ret (.tup []) ∧ H' = H.set k (bldO (.ptr k 0) d)) := by
  rcases hp with rfl | rfl
  · exact ZeR H k d hk
  exact ZeS H k d hk
theorem strD_sby (s : ByteArray) : strD s = nts .u8 (sby s) := by
  unfold strD sby nts
  rw [List.map_map]; rfl
theorem u8T : TIC C Zbl (tkDesc C.P Zbl) 1 1 (.int .u8 0) := (ty_tic (C := C) (t := Zbl) rfl).1
theorem nts_app (L M : List Nat) : nts .u8 L ++ nts .u8 M = nts .u8 (L ++ M) := by unfold nts; rw [List.map_append]
abbrev rowU (L : List Nat) : Option AObj := some ⟨nts .u8 L, Zbl, 1, true, none⟩
def BldS (H : Heap) (k : Nat) (L : List Nat) : Prop := ∃ p d, (p = .nilptr ∨ p = .ptr k 0) ∧ H[k]? = some (bldO p d) ∧ ((L = [] ∧ d = .nilsl) ∨ (L ≠ [] ∧ ∃ id, id ≠ k ∧ d = .row id L.length ∧ H[id]? = some (rowU L)))
def KeepB (H H' : Heap) (k : Nat) : Prop := H.length ≤ H'.length ∧ ∀ (j : Nat) (o : AObj), H[j]? = some (some o) → j ≠ k → o.elem ≠ Zbl → H'[j]? = some (some o)
theorem KeepB.refl (H : Heap) (k : Nat) : KeepB H H k := ⟨Nat.le_refl _, fun _ _ h _ _ => h⟩
theorem KeepB.trans {H1 H2 H3 : Heap} {k : Nat} (h : KeepB H1 H2 k) (g : KeepB H2 H3 k) : KeepB H1 H3 k := ⟨Nat.le_trans h.1 g.1, fun j o a b c => g.2 j o (h.2 j o a b c) b c⟩
theorem BldS.new {H : Heap} {k : Nat} (h : H[k]? = some (bldO .nilptr .nilsl)) : BldS H k [] := ⟨_, _, .inl rfl, h, .inl ⟨rfl, rfl⟩⟩
theorem BldS.keep {H H' : Heap} {k : Nat} {L : List Nat} (h : BldS H k L) (hk : ∀ j x, H[j]? = some (some x) → x.elem = Zbl ∨ j = k → H'[j]? = some (some x)) : BldS H' k L := by
  obtain ⟨p, d, h1, h2, h3⟩ := h
  refine ⟨p, d, h1, hk k _ h2 (.inr rfl), h3.imp id fun ⟨a, id, b, c, e⟩ => ⟨a, id, b, c, hk id _ e (.inl rfl)⟩⟩
theorem okApp {A : Heap} {r : AObj} {i n : Nat} (h : i = A.length) : okCell (A ++ [some r]) (.row i n) = true := by
  subst h
  show (true && match (A ++ [some r])[A.length]? with | some (some _) => true | _ => false) = true
  rw [List.getElem?_append_right (Nat.le_refl _)]; simp
theorem nil_post {H : Heap} {k : Nat} {p : D} {M : List Nat} {n i : Nat} (hk : H[k]? = some (bldO p .nilsl)) (hM : M ≠ []) (hn : n = M.length) (hi : i = H.length) : 
    BldS ((H.set k (bldO (.ptr k 0) .nilsl) ++ [rowU M]).set k (bldO (.ptr k 0) (.row i n))) k M ∧ KeepB H ((H.set k (bldO (.ptr k 0) .nilsl) ++ [rowU M]).set k (bldO (.ptr k 0) (.row i n))) k := by
  subst hn; subst hi
  have hlt := (List.getElem?_eq_some_iff.1 hk).1
  refine ⟨⟨_, _, .inr rfl, ?_, .inr ⟨hM, H.length, by omega, rfl, ?_⟩⟩, by simp, fun j o h1 h2 h3 => ?_⟩
  · rw [List.getElem?_set, if_pos rfl, if_pos (by simp; omega)]
  · rw [List.getElem?_set_ne (by omega), List.getElem?_append_right (by simp)]; simp
  have := (List.getElem?_eq_some_iff.1 h1).1
  rw [List.getElem?_set_ne (fun e => h2 e.symm), List.getElem?_append_left (by simp; omega), List.getElem?_set_ne (fun e => h2 e.symm)]; exact h1
theorem row_post {H : Heap} {k id : Nat} {p : D} {L M : List Nat} {m n i : Nat} (hk : H[k]? = some (bldO p (.row id m))) (hid : H[id]? = some (rowU L)) (hne : id ≠ k) (hL : L ≠ []) (hn : n = (L ++ M).length) (hi : i = H.length) :
    BldS ((((H.set k (bldO (.ptr k 0) (.row id m))).set id none) ++ [rowU (L ++ M)]).set k (bldO (.ptr k 0) (.row i n))) k (L ++ M) ∧
      KeepB H ((((H.set k (bldO (.ptr k 0) (.row id m))).set id none) ++ [rowU (L ++ M)]).set k (bldO (.ptr k 0) (.row i n))) k := by
  subst hn; subst hi
  have hlt := (List.getElem?_eq_some_iff.1 hk).1
  refine ⟨⟨_, _, .inr rfl, ?_, .inr ⟨by simp [hL], H.length, by omega, rfl, ?_⟩⟩, by simp, fun j o h1 h2 h3 => ?_⟩
  · rw [List.getElem?_set, if_pos rfl, if_pos (by simp; omega)]
  · rw [List.getElem?_set_ne (by omega), List.getElem?_append_right (by simp)]; simp
  have := (List.getElem?_eq_some_iff.1 h1).1
  have hji : id ≠ j := by rintro rfl; rw [hid] at h1; injection h1 with h1; injection h1 with h1; subst h1; exact h3 rfl
  rw [List.getElem?_set_ne (fun e => h2 e.symm), List.getElem?_append_left (by simp; omega), List.getElem?_set_ne hji, List.getElem?_set_ne (fun e => h2 e.symm)]; exact h1
theorem Zel (H : Heap) (k : Nat) (p : D) (hp : p = .nilptr ∨ p = .ptr k 0) (hk : H[k]? = some (bldO p .nilsl)) (s : ByteArray) (h0 : 0 < s.size) (hl : 0 + s.size ≤ 1099511627776) : HC C Zap H [.ptr k 0, .str s] (fun x H' => x = .ret (.tup [.int .i64 (s.size : Int), .niliface]) ∧ BldS H' k (sby s) ∧ KeepB H H' k) := by
  refine HC.run Zal ZaB rfl ZaC (rs := [.tmp 4, .tmp 5]) (by rw [ZaD]) (by simp only [List.length_cons, List.length_nil, Nat.reduceAdd, Nat.reduceSub, List.replicate_succ, List.replicate_zero, List.cons_append, List.nil_append]; exact rfl) ?_
  refine ARun.seq (ARun.region ?_); refine zza ?_; refine zza ?_; refine AOps.nil (ARun.seq (ARun.region ?_)); refine zzm ?_
  refine Zad rfl rfl rfl rfl (Za6 _ k p _ hp hk) ?_ (by rintro _ _ ⟨h, _⟩; cases h)
  rintro d1 H1 ⟨h1, h2⟩
  injection h1 with h1
  subst h1
  subst h2
  have hk1 := heap_set_get (y := bldO (.ptr k 0) .nilsl) hk
  refine AOps.nil (ARun.seq (ARun.region ?_)); refine zzm ?_; refine zzm ?_
  refine y_op rfl (q_nil rfl rfl) ?_
  refine y_op rfl (q_fldP rfl rfl rfl (by decide)) ?_
  refine y_op rfl (Zaa rfl rfl rfl hk1 rfl) ?_
  refine zzm ?_
  refine y_new rfl (ZeL (ty_slice rfl) (ty_str rfl) u8T rfl rfl h0 (by omega)) ?_
  rw [strD_sby]
  have hk2 : ((H.set k (bldO (.ptr k 0) .nilsl)) ++ [rowU (sby s)])[k]? = some (bldO (.ptr k 0) .nilsl) := by
    rw [List.getElem?_append_left (by simp; have := (List.getElem?_eq_some_iff.1 hk).1; omega)]; exact hk1
  refine y_op rfl (q_nil rfl rfl) ?_
  refine y_op rfl (q_fldP rfl rfl rfl (by decide)) ?_
  refine y_new rfl (Zac rfl rfl rfl (okApp (by simp)) hk2 rfl (Nat.le_of_ble_eq_true rfl) rfl) ?_
  refine AOps.nil (ARun.seq (ARun.region ?_)); refine zzm ?_
  refine y_op rfl (Zae rfl rfl) ?_
  refine zza ?_; refine zza ?_; refine AOps.nil ?_
  refine ARun.ret ?_
  exact ⟨_, _, _, .tmp rfl (.tmp rfl .nil), .cons (.same _) (.cons (.same _) .nil), rfl, nil_post hk (fun e => by have := sby_len s; rw [e] at this; simp at this; omega) (sby_len s).symm (by simp)⟩
theorem Zem (H : Heap) (k : Nat) (p : D) (hp : p = .nilptr ∨ p = .ptr k 0) (L : List Nat) (id : Nat) (hne : id ≠ k) (hL : L ≠ []) (hk : H[k]? = some (bldO p (.row id L.length))) (hid : H[id]? = some (rowU L)) (s : ByteArray) (h0 : 0 < s.size) (hl : L.length + s.size ≤ 1099511627776) : HC C Zap H [.ptr k 0, .str s] (fun x H' => x = .ret (.tup [.int .i64 (s.size : Int), .niliface]) ∧ BldS H' k ((L ++ sby s)) ∧ KeepB H H' k) := by
  refine HC.run Zal ZaB rfl ZaC (rs := [.tmp 4, .tmp 5]) (by rw [ZaD]) (by simp only [List.length_cons, List.length_nil, Nat.reduceAdd, Nat.reduceSub, List.replicate_succ, List.replicate_zero, List.cons_append, List.nil_append]; exact rfl) ?_
  refine ARun.seq (ARun.region ?_); refine zza ?_; refine zza ?_; refine AOps.nil (ARun.seq (ARun.region ?_)); refine zzm ?_
  refine Zad rfl rfl rfl rfl (Za6 _ k p _ hp hk) ?_ (by rintro _ _ ⟨h, _⟩; cases h)
  rintro d1 H1 ⟨h1, h2⟩
  injection h1 with h1
  subst h1
  subst h2
  have hk1 := heap_set_get (y := bldO (.ptr k 0) (.row id L.length)) hk
  have hi1 : (H.set k (bldO (.ptr k 0) (.row id L.length)))[id]? = some (rowU L) := by rw [List.getElem?_set_ne (fun e => hne e.symm)]; exact hid
  refine AOps.nil (ARun.seq (ARun.region ?_)); refine zzm ?_; refine zzm ?_
  refine y_op rfl (q_nil rfl rfl) ?_
  refine y_op rfl (q_fldP rfl rfl rfl (by decide)) ?_
  refine y_op rfl (Zaa rfl rfl rfl hk1 rfl) ?_
  refine zzm ?_
  refine y_new rfl (Zfs (ty_slice rfl) (ty_str rfl) u8T rfl hi1 rfl rfl rfl rfl (by omega)) ?_
  rw [strD_sby]
  rw [nts_app]
  have hk2 : (((H.set k (bldO (.ptr k 0) (.row id L.length))).set id none) ++ [rowU (L ++ sby s)])[k]? = some (bldO (.ptr k 0) (.row id L.length)) := by
    rw [List.getElem?_append_left (by simp; have := (List.getElem?_eq_some_iff.1 hk).1; omega), List.getElem?_set_ne hne]; exact hk1
  refine y_op rfl (q_nil rfl rfl) ?_
  refine y_op rfl (q_fldP rfl rfl rfl (by decide)) ?_
  refine y_new rfl (Zac rfl rfl rfl (okApp (by simp)) hk2 rfl (Nat.le_of_ble_eq_true rfl) rfl) ?_
  refine AOps.nil (ARun.seq (ARun.region ?_)); refine zzm ?_
  refine y_op rfl (Zae rfl rfl) ?_
  refine zza ?_; refine zza ?_; refine AOps.nil ?_
  refine ARun.ret ?_
  exact ⟨_, _, _, .tmp rfl (.tmp rfl .nil), .cons (.same _) (.cons (.same _) .nil), rfl, row_post hk hid hne hL (by rw [List.length_append, sby_len]) (by simp)⟩
theorem ZbZ (H : Heap) (k : Nat) (L : List Nat) (hb : BldS H k L) (s : ByteArray) (h0 : 0 < s.size) (hl : L.length + s.size ≤ 1099511627776) : HC C Zap H [.ptr k 0, .str s] (fun x H' => x = .ret (.tup [.int .i64 (s.size : Int), .niliface]) ∧ BldS H' k (L ++ sby s) ∧ KeepB H H' k) := by
  obtain ⟨p, d, h1, h2, ⟨rfl, rfl⟩ | ⟨h3, id, h4, rfl, h5⟩⟩ := hb
  · exact Zel H k p h1 h2 s h0 (by simpa using hl)
  exact Zem H k p h1 L id h4 h3 h2 h5 s h0 hl
theorem ZeT (H : Heap) (k : Nat) (p : D) (hp : p = .nilptr ∨ p = .ptr k 0) (hk : H[k]? = some (bldO p .nilsl)) (c : Nat) (hl : 0 + 1 ≤ 1099511627776) : HC C Zat H [.ptr k 0, .int .u8 (c : Int)] (fun x H' => x = .ret .niliface ∧ BldS H' k ([c]) ∧ KeepB H H' k) := by
  refine HC.run Zar ZaH rfl ZaI (rs := [.tmp 4]) (by rw [ZaJ]) (by simp only [List.length_cons, List.length_nil, Nat.reduceAdd, Nat.reduceSub, List.replicate_succ, List.replicate_zero, List.cons_append, List.nil_append]; exact rfl) ?_
  refine ARun.seq (ARun.region ?_); refine zza ?_; refine AOps.nil (ARun.seq (ARun.region ?_)); refine zzm ?_
  refine Zad rfl rfl rfl rfl (Za6 _ k p _ hp hk) ?_ (by rintro _ _ ⟨h, _⟩; cases h)
  rintro d1 H1 ⟨h1, h2⟩
  injection h1 with h1
  subst h1
  subst h2
  have hk1 := heap_set_get (y := bldO (.ptr k 0) .nilsl) hk
  refine AOps.nil (ARun.seq (ARun.region ?_)); refine zzm ?_; refine zzm ?_
  refine y_op rfl (q_nil rfl rfl) ?_
  refine y_op rfl (q_fldP rfl rfl rfl (by decide)) ?_
  refine y_op rfl (Zaa rfl rfl rfl hk1 rfl) ?_
  refine zzm ?_
  refine y_op rfl (ZbH rfl rfl rfl rfl rfl rfl rfl rfl rfl rfl rfl (by decide) (by decide) rfl) ?_
  refine y_new rfl (Zc2 (m := 1) (news := [D.int .u8 (c : Int)]) rfl rfl (by decide) rfl rfl rfl rfl rfl rfl rfl (by decide) (by show 1 * 1 ≤ _; omega) (by rw [maxLen_eq]; omega)) ?_
  have hk2 : ((H.set k (bldO (.ptr k 0) .nilsl)) ++ [rowU ([c])])[k]? = some (bldO (.ptr k 0) .nilsl) := by
    rw [List.getElem?_append_left (by simp; have := (List.getElem?_eq_some_iff.1 hk).1; omega)]; exact hk1
  refine y_op rfl (q_nil rfl rfl) ?_
  refine y_op rfl (q_fldP rfl rfl rfl (by decide)) ?_
  refine y_new rfl (Zac rfl rfl rfl (okApp (by simp)) hk2 rfl (Nat.le_of_ble_eq_true rfl) rfl) ?_
  refine AOps.nil (ARun.seq (ARun.region ?_)); refine zza ?_; refine AOps.nil ?_
  refine ARun.ret ?_
  exact ⟨_, _, _, .tmp rfl .nil, .cons (.same _) .nil, rfl, nil_post (M := [c]) hk (by simp) rfl (by simp)⟩
theorem ZeU (H : Heap) (k : Nat) (p : D) (hp : p = .nilptr ∨ p = .ptr k 0) (L : List Nat) (id : Nat) (hne : id ≠ k) (hL : L ≠ []) (hk : H[k]? = some (bldO p (.row id L.length))) (hid : H[id]? = some (rowU L)) (c : Nat) (hl : L.length + 1 ≤ 1099511627776) : HC C Zat H [.ptr k 0, .int .u8 (c : Int)] (fun x H' => x = .ret .niliface ∧ BldS H' k ((L ++ [c])) ∧ KeepB H H' k) := by
  refine HC.run Zar ZaH rfl ZaI (rs := [.tmp 4]) (by rw [ZaJ]) (by simp only [List.length_cons, List.length_nil, Nat.reduceAdd, Nat.reduceSub, List.replicate_succ, List.replicate_zero, List.cons_append, List.nil_append]; exact rfl) ?_
  refine ARun.seq (ARun.region ?_); refine zza ?_; refine AOps.nil (ARun.seq (ARun.region ?_)); refine zzm ?_
  refine Zad rfl rfl rfl rfl (Za6 _ k p _ hp hk) ?_ (by rintro _ _ ⟨h, _⟩; cases h)
  rintro d1 H1 ⟨h1, h2⟩
  injection h1 with h1
  subst h1
  subst h2
  have hk1 := heap_set_get (y := bldO (.ptr k 0) (.row id L.length)) hk
  have hi1 : (H.set k (bldO (.ptr k 0) (.row id L.length)))[id]? = some (rowU L) := by rw [List.getElem?_set_ne (fun e => hne e.symm)]; exact hid
  refine AOps.nil (ARun.seq (ARun.region ?_)); refine zzm ?_; refine zzm ?_
  refine y_op rfl (q_nil rfl rfl) ?_
  refine y_op rfl (q_fldP rfl rfl rfl (by decide)) ?_
  refine y_op rfl (Zaa rfl rfl rfl hk1 rfl) ?_
  refine zzm ?_
  refine y_op rfl (ZbH rfl rfl rfl rfl rfl rfl rfl rfl rfl rfl rfl (by decide) (by decide) rfl) ?_
  refine y_new rfl (Zeo (m := 1) (news := [D.int .u8 (c : Int)]) rfl rfl (by decide) rfl rfl rfl rfl hi1 rfl rfl rfl rfl rfl rfl (by show (_ + 1) * 1 ≤ _; omega) (by rw [maxLen_eq]; omega) rfl) ?_
  rw [show [D.int .u8 (c : Int)] = nts .u8 [c] from rfl, nts_app]
  have hk2 : (((H.set k (bldO (.ptr k 0) (.row id L.length))).set id none) ++ [rowU (L ++ [c])])[k]? = some (bldO (.ptr k 0) (.row id L.length)) := by
    rw [List.getElem?_append_left (by simp; have := (List.getElem?_eq_some_iff.1 hk).1; omega), List.getElem?_set_ne hne]; exact hk1
  refine y_op rfl (q_nil rfl rfl) ?_
  refine y_op rfl (q_fldP rfl rfl rfl (by decide)) ?_
  refine y_new rfl (Zac rfl rfl rfl (okApp (by simp)) hk2 rfl (Nat.le_of_ble_eq_true rfl) rfl) ?_
  refine AOps.nil (ARun.seq (ARun.region ?_)); refine zza ?_; refine AOps.nil ?_
  refine ARun.ret ?_
  exact ⟨_, _, _, .tmp rfl .nil, .cons (.same _) .nil, rfl, row_post hk hid hne hL (by rw [List.length_append]; rfl) (by simp)⟩
theorem Za7 (H : Heap) (k : Nat) (L : List Nat) (hb : BldS H k L) (c : Nat) (hl : L.length + 1 ≤ 1099511627776) : HC C Zat H [.ptr k 0, .int .u8 (c : Int)] (fun x H' => x = .ret .niliface ∧ BldS H' k (L ++ [c]) ∧ KeepB H H' k) := by
  obtain ⟨p, d, h1, h2, ⟨rfl, rfl⟩ | ⟨h3, id, h4, rfl, h5⟩⟩ := hb
  · exact ZeT H k p h1 h2 c (by simpa using hl)
  exact ZeU H k p h1 L id h4 h3 h2 h5 c hl
theorem ZfQ (H : Heap) (k : Nat) (p : D) (hp : p = .nilptr ∨ p = .ptr k 0) (hk : H[k]? = some (bldO p .nilsl)) (M : List Nat) (h0 : 0 < M.length) (hl : 0 + M.length ≤ 1099511627776) : HC C ZaE H [.ptr k 0, .sl M.length (nts .u8 M)] (fun x H' => x = .ret (.tup [.int .i64 (M.length : Int), .niliface]) ∧ BldS H' k (M) ∧ KeepB H H' k) := by
  refine HC.run ZaA Za0 rfl Za1 (rs := [.tmp 4, .tmp 5]) (by rw [Za2]) (by simp only [List.length_cons, List.length_nil, Nat.reduceAdd, Nat.reduceSub, List.replicate_succ, List.replicate_zero, List.cons_append, List.nil_append]; exact rfl) ?_
  refine ARun.seq (ARun.region ?_); refine zza ?_; refine zza ?_; refine AOps.nil (ARun.seq (ARun.region ?_)); refine zzm ?_
  refine Zad rfl rfl rfl rfl (Za6 _ k p _ hp hk) ?_ (by rintro _ _ ⟨h, _⟩; cases h)
  rintro d1 H1 ⟨h1, h2⟩
  injection h1 with h1
  subst h1
  subst h2
  have hk1 := heap_set_get (y := bldO (.ptr k 0) .nilsl) hk
  refine AOps.nil (ARun.seq (ARun.region ?_)); refine zzm ?_; refine zzm ?_
  refine y_op rfl (q_nil rfl rfl) ?_
  refine y_op rfl (q_fldP rfl rfl rfl (by decide)) ?_
  refine y_op rfl (Zaa rfl rfl rfl hk1 rfl) ?_
  refine zzm ?_
  refine y_new rfl (Zc2 (m := M.length) (news := nts .u8 M) rfl rfl (by decide) rfl rfl rfl rfl rfl rfl (by rw [nts_length, Nat.mul_one]) h0 (by show M.length * 1 ≤ _; omega) (by rw [maxLen_eq]; omega)) ?_
  have hk2 : ((H.set k (bldO (.ptr k 0) .nilsl)) ++ [rowU (M)])[k]? = some (bldO (.ptr k 0) .nilsl) := by
    rw [List.getElem?_append_left (by simp; have := (List.getElem?_eq_some_iff.1 hk).1; omega)]; exact hk1
  refine y_op rfl (q_nil rfl rfl) ?_
  refine y_op rfl (q_fldP rfl rfl rfl (by decide)) ?_
  refine y_new rfl (Zac rfl rfl rfl (okApp (by simp)) hk2 rfl (Nat.le_of_ble_eq_true rfl) rfl) ?_
  refine AOps.nil (ARun.seq (ARun.region ?_)); refine zzm ?_; refine zzN ?_; refine zza ?_; refine zza ?_; refine AOps.nil ?_
  refine ARun.ret ?_
  exact ⟨_, _, _, .tmp rfl (.tmp rfl .nil), .cons (.same _) (.cons (.same _) .nil), rfl, nil_post hk (fun e => by rw [e] at h0; exact absurd h0 (by decide)) rfl (by simp)⟩
theorem ZfR (H : Heap) (k : Nat) (p : D) (hp : p = .nilptr ∨ p = .ptr k 0) (L : List Nat) (id : Nat) (hne : id ≠ k) (hL : L ≠ []) (hk : H[k]? = some (bldO p (.row id L.length))) (hid : H[id]? = some (rowU L)) (M : List Nat) (h0 : 0 < M.length) (hl : L.length + M.length ≤ 1099511627776) : HC C ZaE H [.ptr k 0, .sl M.length (nts .u8 M)] (fun x H' => x = .ret (.tup [.int .i64 (M.length : Int), .niliface]) ∧ BldS H' k ((L ++ M)) ∧ KeepB H H' k) := by
  refine HC.run ZaA Za0 rfl Za1 (rs := [.tmp 4, .tmp 5]) (by rw [Za2]) (by simp only [List.length_cons, List.length_nil, Nat.reduceAdd, Nat.reduceSub, List.replicate_succ, List.replicate_zero, List.cons_append, List.nil_append]; exact rfl) ?_
  refine ARun.seq (ARun.region ?_); refine zza ?_; refine zza ?_; refine AOps.nil (ARun.seq (ARun.region ?_)); refine zzm ?_
  refine Zad rfl rfl rfl rfl (Za6 _ k p _ hp hk) ?_ (by rintro _ _ ⟨h, _⟩; cases h)
  rintro d1 H1 ⟨h1, h2⟩
  injection h1 with h1
  subst h1
  subst h2
  have hk1 := heap_set_get (y := bldO (.ptr k 0) (.row id L.length)) hk
  have hi1 : (H.set k (bldO (.ptr k 0) (.row id L.length)))[id]? = some (rowU L) := by rw [List.getElem?_set_ne (fun e => hne e.symm)]; exact hid
  refine AOps.nil (ARun.seq (ARun.region ?_)); refine zzm ?_; refine zzm ?_
  refine y_op rfl (q_nil rfl rfl) ?_
  refine y_op rfl (q_fldP rfl rfl rfl (by decide)) ?_
  refine y_op rfl (Zaa rfl rfl rfl hk1 rfl) ?_
  refine zzm ?_
  refine y_new rfl (Zeo (m := M.length) (news := nts .u8 M) rfl rfl (by decide) rfl rfl rfl rfl hi1 rfl rfl rfl rfl rfl (by rw [nts_length, Nat.mul_one]) (by show (_ + M.length) * 1 ≤ _; omega) (by rw [maxLen_eq]; omega) rfl) ?_
  rw [nts_app]
  have hk2 : (((H.set k (bldO (.ptr k 0) (.row id L.length))).set id none) ++ [rowU (L ++ M)])[k]? = some (bldO (.ptr k 0) (.row id L.length)) := by
    rw [List.getElem?_append_left (by simp; have := (List.getElem?_eq_some_iff.1 hk).1; omega), List.getElem?_set_ne hne]; exact hk1
  refine y_op rfl (q_nil rfl rfl) ?_
  refine y_op rfl (q_fldP rfl rfl rfl (by decide)) ?_
  refine y_new rfl (Zac rfl rfl rfl (okApp (by simp)) hk2 rfl (Nat.le_of_ble_eq_true rfl) rfl) ?_
  refine AOps.nil (ARun.seq (ARun.region ?_)); refine zzm ?_; refine zzN ?_; refine zza ?_; refine zza ?_; refine AOps.nil ?_
  refine ARun.ret ?_
  exact ⟨_, _, _, .tmp rfl (.tmp rfl .nil), .cons (.same _) (.cons (.same _) .nil), rfl, row_post hk hid hne hL (by rw [List.length_append]) (by simp)⟩
theorem Zgo (H : Heap) (k : Nat) (L : List Nat) (hb : BldS H k L) (M : List Nat) (h0 : 0 < M.length) (hl : L.length + M.length ≤ 1099511627776) : HC C ZaE H [.ptr k 0, .sl M.length (nts .u8 M)] (fun x H' => x = .ret (.tup [.int .i64 (M.length : Int), .niliface]) ∧ BldS H' k (L ++ M) ∧ KeepB H H' k) := by
  obtain ⟨p, d, h1, h2, ⟨rfl, rfl⟩ | ⟨h3, id, h4, rfl, h5⟩⟩ := hb
  · exact ZfQ H k p h1 h2 M h0 (by simpa using hl)
  exact ZfR H k p h1 L id h4 h3 h2 h5 M h0 hl
theorem Zgp (H : Heap) (k : Nat) (p : D) (hk : H[k]? = some (bldO p .nilsl)) : HC C ZaN H [.ptr k 0] (fun x H' => x = .ret (.int .i64 0) ∧ H' = H) := by
  refine HC.run ZaG Zbb rfl Zbc (rs := [.tmp 2]) (by rw [Zbd]) (by simp only [List.length_cons, List.length_nil, Nat.reduceAdd, Nat.reduceSub, List.replicate_succ, List.replicate_zero, List.cons_append, List.nil_append]; exact rfl) ?_
  refine ARun.seq (ARun.region ?_); refine zza ?_; refine AOps.nil (ARun.seq (ARun.region ?_)); refine zzm ?_
  refine y_op rfl (q_nil rfl rfl) ?_
  refine y_op rfl (q_fldP rfl rfl rfl (by decide)) ?_
  refine y_op rfl (Zaa rfl rfl rfl hk rfl) ?_
  refine y_op rfl (Ze1 rfl rfl) ?_
  refine zza ?_; refine AOps.nil ?_
  refine ARun.ret ?_
  exact ⟨_, _, _, .tmp rfl .nil, .cons (.same _) .nil, rfl, rfl⟩
theorem Zgq (H : Heap) (k id n : Nat) (p : D) (o : AObj) (hk : H[k]? = some (bldO p (.row id n))) (hid : H[id]? = some (some o)) : HC C ZaN H [.ptr k 0] (fun x H' => x = .ret (.int .i64 (n : Int)) ∧ H' = H) := by
  refine HC.run ZaG Zbb rfl Zbc (rs := [.tmp 2]) (by rw [Zbd]) (by simp only [List.length_cons, List.length_nil, Nat.reduceAdd, Nat.reduceSub, List.replicate_succ, List.replicate_zero, List.cons_append, List.nil_append]; exact rfl) ?_
  refine ARun.seq (ARun.region ?_); refine zza ?_; refine AOps.nil (ARun.seq (ARun.region ?_)); refine zzm ?_
  refine y_op rfl (q_nil rfl rfl) ?_
  refine y_op rfl (q_fldP rfl rfl rfl (by decide)) ?_
  refine y_op rfl (Zaa rfl rfl rfl hk rfl) ?_
  refine y_op rfl (Zen rfl hid rfl) ?_
  refine zza ?_; refine AOps.nil ?_
  refine ARun.ret ?_
  exact ⟨_, _, _, .tmp rfl .nil, .cons (.same _) .nil, rfl, rfl⟩
theorem hc_Len (H : Heap) (k : Nat) (L : List Nat) (hb : BldS H k L) : HC C ZaN H [.ptr k 0] (fun x H' => x = .ret (.int .i64 (L.length : Int)) ∧ H' = H) := by
  obtain ⟨p, d, h1, h2, ⟨rfl, rfl⟩ | ⟨h3, id, h4, rfl, h5⟩⟩ := hb
  · exact Zgp H k p h2
  exact Zgq H k id _ p _ h2 h5
theorem kill_keep {H : Heap} {k id : Nat} {L : List Nat} (hid : H[id]? = some (rowU L)) : KeepB H (H.set id none) k := ⟨by simp, fun j o h1 h2 h3 => by
  have hji : id ≠ j := by rintro rfl; rw [hid] at h1; injection h1 with h1; injection h1 with h1; subst h1; exact h3 rfl
  rw [List.getElem?_set_ne hji]; exact h1⟩
theorem ZfB (H : Heap) (k : Nat) (p : D) (hk : H[k]? = some (bldO p .nilsl)) : HC C Zaz H [.ptr k 0] (fun x H' => x = .ret (.str (bytesOf [])) ∧ KeepB H H' k) := by
  refine HC.run Zax ZaS rfl ZaT (rs := [.tmp 2]) (by rw [ZaU]) (by simp only [List.length_cons, List.length_nil, Nat.reduceAdd, Nat.reduceSub, List.replicate_succ, List.replicate_zero, List.cons_append, List.nil_append]; exact rfl) ?_
  refine ARun.seq (ARun.region ?_); refine zza ?_; refine AOps.nil (ARun.seq ?_)
  refine ARun.drawnP 10 (fun _ => False) mixC rfl rfl (by kernel_rfl) (fun _ _ h => h.elim) ?_
  refine .op rfl (q_move rfl) ?_
  refine .op rfl (q_nil rfl rfl) ?_
  refine .op rfl (q_fldP rfl rfl rfl (by decide)) ?_
  refine .op rfl (Zaa rfl rfl rfl hk rfl) ?_
  refine .op rfl (ZeM rfl) ?_
  refine .op rfl (q_move rfl) ?_
  refine .op rfl (q_nil rfl rfl) ?_
  refine .op rfl (q_fldP rfl rfl rfl (by decide)) ?_
  refine .op rfl (Zaa rfl rfl rfl hk rfl) ?_
  refine .op rfl (Ze1 rfl rfl) ?_
  refine .nil (fun hG => ?_)
  refine y_op rfl (ZeN rfl rfl) ?_
  refine zza ?_; refine AOps.nil ?_
  refine ARun.ret ?_
  exact ⟨_, _, _, .tmp rfl .nil, .cons (.same _) .nil, rfl, KeepB.refl _ _⟩
theorem strD_bytes {L : List Nat} (h : ∀ c ∈ L, c < 256) : nts .u8 L = strD (bytesOf L) := by rw [strD_sby, sby_bytesOf h]
theorem ZfC (H : Heap) (k id : Nat) (p : D) (L : List Nat) (hk : H[k]? = some (bldO p (.row id L.length))) (hid : H[id]? = some (rowU L)) (hL : ∀ x ∈ L, x < 256) (h0 : L ≠ []) (hl : L.length ≤ 1099511627776) : HC C Zaz H [.ptr k 0] (fun x H' => x = .ret (.str (bytesOf L)) ∧ KeepB H H' k) := by
  have hn : L.length ≠ 0 := fun e => h0 (List.eq_nil_of_length_eq_zero e)
  refine HC.run Zax ZaS rfl ZaT (rs := [.tmp 2]) (by rw [ZaU]) (by simp only [List.length_cons, List.length_nil, Nat.reduceAdd, Nat.reduceSub, List.replicate_succ, List.replicate_zero, List.cons_append, List.nil_append]; exact rfl) ?_
  refine ARun.seq (ARun.region ?_); refine zza ?_; refine AOps.nil (ARun.seq ?_)
  refine ARun.drawnP 10 (fun _ => False) mixC rfl rfl (by kernel_rfl) (fun _ _ h => h.elim) ?_
  refine .op rfl (q_move rfl) ?_
  refine .op rfl (q_nil rfl rfl) ?_
  refine .op rfl (q_fldP rfl rfl rfl (by decide)) ?_
  refine .op rfl (Zaa rfl rfl rfl hk rfl) ?_
  refine .op rfl (Zfu rfl hid hn) ?_
  refine .op rfl (q_move rfl) ?_
  refine .op rfl (q_nil rfl rfl) ?_
  refine .op rfl (q_fldP rfl rfl rfl (by decide)) ?_
  refine .op rfl (Zaa rfl rfl rfl hk rfl) ?_
  refine .op rfl (Zen rfl hid rfl) ?_
  refine .nil (fun hG => ?_)
  refine y_new rfl (Zfv (e := Zbl) (by kernel_rfl) (by kernel_rfl) rfl rfl hid rfl rfl rfl (strD_bytes hL) (bytesOf_size _) hn hl) ?_
  refine zza ?_; refine AOps.nil ?_
  refine ARun.ret ?_
  exact ⟨_, _, _, .tmp rfl .nil, .cons (.same _) .nil, rfl, kill_keep hid⟩
theorem Zfi (H : Heap) (k : Nat) (L : List Nat) (hb : BldS H k L) (hL : ∀ x ∈ L, x < 256) (hl : L.length ≤ 1099511627776) : HC C Zaz H [.ptr k 0] (fun x H' => x = .ret (.str (bytesOf L)) ∧ KeepB H H' k) := by
  obtain ⟨p, d, h1, h2, ⟨rfl, rfl⟩ | ⟨h3, id, h4, rfl, h5⟩⟩ := hb
  · exact ZfB H k p h2
  exact ZfC H k id p L h2 h5 hL h3 hl
end Go.V
set_option maxHeartbeats 8000000
set_option maxRecDepth 100000
set_option synthInstance.maxSize 100000
set_option synthInstance.maxHeartbeats 2000000
namespace Go.V
open Go.RowKit Go.Proofs
/-! The RUNS of a set, yielded. -/
def rinC (S : Nat → Bool) (c : Nat) : Bool := decide (c < 256) && rin S c
theorem rin_alt (S : Nat → Bool) (c : Nat) : rinC S c = ((((decide (c < 256) && S c) && !decide (c = 93)) && !decide (c = 94)) && !decide (c = 45)) := by
  unfold rinC rin
  cases decide (c < 256) <;> cases S c <;> cases decide (c = 93) <;> cases decide (c = 94) <;> cases decide (c = 45) <;> rfl
theorem ZeY (S : Nat → Bool) (c : Nat) (hc : c ≤ 256) : PC C Zbj [.int .i64 (c : Int), .sptr (swL S)] (fun o => o = .ret (.bool (rinC S c))) := by
  rw [rin_alt]
  refine PC.rn ZbS Zdu Zdv (rs := [.tmp 3]) (by rw [Zdw]) ?_
  refine ARun.seq (ARun.region ?_); refine zza ?_; refine AOps.nil (ARun.seq (ARun.region ?_)); refine zzm ?_
  refine y_op rfl (OpQ.cast (d' := .bool (decide (c < 256))) (q_int rfl rfl rfl) (congrArg D.bool (decide_eq_decide.2 (by omega)))) ?_
  refine zzm ?_
  apply AOps.andJ 6 (fun sj1 => [(6, .any), (7, .any), (8, .any), (9, .any), (10, .any), (11, .bool sj1)]) rfl
  · intro hj1 run1
    try replace hj1 := of_decide_eq_true hj1
    refine zzL ?_; refine zzm ?_
    refine y_op rfl (q_conv rfl rfl rfl (show _ = (c : Int) by rw [IntKind.wrap_u8]; omega)) ?_
    refine zzc rfl rfl (ZbU S c (by omega)) ?_
    refine zzp ?_
    exact AOps.ag run1
  · intro hj1 run1
    try replace hj1 := of_decide_eq_false hj1
    refine zzk ?_; refine zzk ?_; refine zzk ?_; refine zzk ?_; refine zzp ?_
    exact AOps.ag run1
  refine zzm ?_
  apply AOps.andJ 12 (fun sj2 => [(12, .any), (13, .any), (14, .any), (15, .bool sj2)]) rfl
  · intro hj2 run2
    try replace hj2 := of_decide_eq_true hj2
    refine zzm ?_
    refine y_op rfl (OpQ.cast (d' := .bool (!decide (c = 93))) (q_int rfl rfl rfl) (congrArg D.bool (by rw [Bool.eq_iff_iff]; simp; omega))) ?_
    refine zzp ?_
    exact AOps.ag run2
  · intro hj2 run2
    try replace hj2 := of_decide_eq_false hj2
    refine zzk ?_; refine zzk ?_; refine zzp ?_
    exact AOps.ag run2
  refine zzm ?_
  apply AOps.andJ 16 (fun sj3 => [(16, .any), (17, .any), (18, .any), (19, .bool sj3)]) rfl
  · intro hj3 run3
    try replace hj3 := of_decide_eq_true hj3
    refine zzm ?_
    refine y_op rfl (OpQ.cast (d' := .bool (!decide (c = 94))) (q_int rfl rfl rfl) (congrArg D.bool (by rw [Bool.eq_iff_iff]; simp; omega))) ?_
    refine zzp ?_
    exact AOps.ag run3
  · intro hj3 run3
    try replace hj3 := of_decide_eq_false hj3
    refine zzk ?_; refine zzk ?_; refine zzp ?_
    exact AOps.ag run3
  refine zzm ?_
  apply AOps.andJ 20 (fun sj4 => [(20, .any), (21, .any), (22, .any), (23, .bool sj4)]) rfl
  · intro hj4 run4
    try replace hj4 := of_decide_eq_true hj4
    refine zzm ?_
    refine y_op rfl (OpQ.cast (d' := .bool (!decide (c = 45))) (q_int rfl rfl rfl) (congrArg D.bool (by rw [Bool.eq_iff_iff]; simp; omega))) ?_
    refine zzp ?_
    exact AOps.ag run4
  · intro hj4 run4
    try replace hj4 := of_decide_eq_false hj4
    refine zzk ?_; refine zzk ?_; refine zzp ?_
    exact AOps.ag run4
  refine zza ?_; refine AOps.nil ?_
  refine ARun.ret ?_
  refine ⟨_, _, _, .tmp rfl .nil, .cons (.same _) .nil, rfl, ?_⟩
  rfl
theorem Zf7 (S : Nat → Bool) : PC C ZeB [setD S] (fun o => o = .ret (.clos Zcf [.sptr [.clos Zbj [.sptr (swL S)]]])) := by
  refine PC.rn ZcA Zei Zej (rs := [.tmp 2]) (by rw [Zek]) ?_
  refine ARun.seq (ARun.region ?_); refine zzb ?_; refine zza ?_; refine AOps.nil (ARun.seq (ARun.region ?_))
  refine y_op rfl (ZfE rfl) ?_
  refine ZbI rfl rfl rfl rfl rfl rfl rfl rfl rfl rfl rfl ?_
  refine AOps.nil (ARun.seq (ARun.region ?_))
  refine y_op rfl (ZfE rfl) ?_
  refine zza ?_; refine AOps.nil ?_
  refine ARun.ret ?_
  refine ⟨_, _, _, .tmp rfl .nil, .cons (.same _) .nil, rfl, ?_⟩
  rfl
theorem rinC_rin {S : Nat → Bool} {c : Nat} (h : c < 256) : rinC S c = rin S c := by unfold rinC; rw [decide_eq_true h, Bool.true_and]
theorem Zgr (S : Nat → Bool) (H0 : Heap) (id : Nat) (ps : List Tmp) (hps : ps.length = 2) (asg bd : Code) (envL : List D) (W : List Nat → Heap → Prop) (L0 : List Nat)
    (hW : ∀ L H, W L H → H[id]? = some (loopO .ready ps.toArray asg bd envL))
    (hround : ∀ (c d : Nat) (L : List Nat) (H : Heap), W L H → 1 ≤ c → c ≤ d → d < 256 → L.length ≤ L0.length + c → ARun C (QRound id (fun j H' => j = none ∧ H'[id]? = some (loopO .busy ps.toArray asg bd envL) ∧ W (L ++ wr c d) (H'.set id (loopO .ready ps.toArray asg bd envL)))) [.code asg, .beginRound, .code bd] (setL envL (ps.zip [.int .u8 (c : Int), .int .u8 (d : Int)])) H [])
    (h0 : W L0 H0) :
    HC C Zcf H0 [.yld id, .sptr [.clos Zbj [.sptr (swL S)]]] (fun o H' => o = .ret (.tup []) ∧ W (L0 ++ rtx S 1) H') := by
  obtain ⟨T, hT⟩ : ∃ T, T = L0 ++ rtx S 1 := ⟨_, rfl⟩
  rw [← hT]
  refine HC.run ZbT Zdx rfl Zdy (rs := []) (by rw [Zdz]) (by simp only [List.length_cons, List.length_nil, Nat.reduceAdd, Nat.reduceSub, List.replicate_succ, List.replicate_zero, List.cons_append, List.nil_append]; exact rfl) ?_
  refine ARun.seq (ARun.region ?_); refine zza ?_; refine AOps.nil (ARun.block ?_)
  refine ARun.loopI (S := Nat × List Nat × Heap) (fun σ : Nat × List Nat × Heap => [(4, .any), (5, .any), (6, .any), (7, .any), (8, .any), (9, .any), (10, .any), (11, .any), (12, .any), (13, .any), (14, .any), (15, .any), (16, .any), (17, .any), (18, .any), (19, .any), (20, .any), (21, .any), (22, .any), (23, .any), (24, .any), (25, .any), (26, .any), (3, .int .i64 (σ.1 : Int))]) (fun σ : Nat × List Nat × Heap => σ.2.2) (fun σ : Nat × List Nat × Heap => 1 ≤ σ.1 ∧ σ.1 ≤ 256 ∧ W σ.2.1 σ.2.2 ∧ T = σ.2.1 ++ rtx S σ.1 ∧ σ.2.1.length + 1 ≤ L0.length + σ.1) (fun σ : Nat × List Nat × Heap => 256 - σ.1) ((1, L0, H0)) ?_ ?_ ?_ ?_
  · exact ⟨Nat.le_refl _, (by (dsimp only; omega)), h0, hT, Nat.le_refl _⟩
  · (repeat' first | exact envLe_nil | apply envLe_any | apply envLe_same)
  · rfl
  rintro ⟨c, L, H⟩ hinv ih
  dsimp only at hinv ih ⊢
  obtain ⟨i1, i2, i3, i4, i5⟩ := hinv
  refine ARun.seq (ARun.seq (ARun.region ?_)); refine zzm ?_; refine zzi ?_; refine AOps.nil ?_
  refine ARun.ite rfl (fun g => ?_) (fun g => ?_)
  · skip
    have g : c < 256 := by omega
    refine ARun.skip (ARun.seq (ARun.block (ARun.seq (ARun.seq (ARun.region ?_))))); refine zzl ?_; refine zzm ?_
    refine zzc rfl rfl (ZeY S c (by omega)) ?_
    refine zzn ?_; refine AOps.nil ?_
    refine ARun.cond rfl (fun a => ?_) (fun a => ?_)
    · skip
      have a : rin S c = false := by rw [← rinC_rin g]; simpa using a
      rw [rtx_no g a] at i4
      refine ARun.exit rfl ?_
      refine ARun.region ?_; refine zzm ?_
      refine y_op rfl (q_add rfl rfl (nadd1_i64 (by omega))) ?_
      refine zza ?_; refine AOps.nil ?_
      refine ARun.again (ih ((c + 1, L, H)) ?_ ?_) ?_ ?_
      · exact ⟨by omega, g, i3, i4, by dsimp only; omega⟩
      · (dsimp only; omega)
      · (repeat' first | exact envLe_nil | apply envLe_any | apply envLe_same)
      rfl
    have a : rin S c = true := by rw [← rinC_rin g]; simpa using a
    have hge := rend_ge S c
    have hlt := rend_lt S c g
    rw [rtx_yes g a] at i4
    obtain ⟨e, he⟩ : ∃ e, e = rend S c := ⟨_, rfl⟩
    rw [← he] at i4 hge hlt
    refine ARun.skip (ARun.seq (ARun.region ?_)); refine zzm ?_; refine zza ?_; refine AOps.nil (ARun.seq (ARun.block ?_))
    refine ARun.loopI (S := Nat) (fun d : Nat => [(14, .any), (15, .any), (16, .any), (17, .any), (18, .any), (19, .any), (3, .int .i64 (d : Int))]) (fun d : Nat => H) (fun d : Nat => c ≤ d ∧ d ≤ e ∧ rend S d = e) (fun d : Nat => 256 - d) (c) ?_ ?_ ?_ ?_
    · exact ⟨Nat.le_refl _, hge, he.symm⟩
    · (repeat' first | exact envLe_nil | apply envLe_any | apply envLe_same)
    · rfl
    rintro d hinv ih2
    obtain ⟨d1, d2, d3⟩ := hinv
    refine ARun.seq (ARun.seq (ARun.region ?_)); refine zzl ?_; refine zzm ?_
    refine y_op rfl (OpQ.cast (d' := .int .i64 ((d + 1 : Nat) : Int)) (q_int rfl rfl rfl) (congrArg (D.int .i64) (by show IntKind.i64.wrap _ = _; rw [IntWalk.i64_in _ (by omega)]; omega))) ?_
    refine zzc rfl rfl (ZeY S (d + 1) (by omega)) ?_
    refine AOps.nil ?_
    refine ARun.cond rfl (fun y => ?_) (fun y => ?_)
    · skip
      have y2 : d + 1 < 256 ∧ rin S (d + 1) = true := by
        unfold rinC at y
        rw [Bool.and_eq_true, decide_eq_true_eq] at y; exact y
      rw [rend_yes y2.1 y2.2] at d3
      have := rend_ge S (d + 1)
      refine ARun.skip (ARun.block (ARun.region ?_)); refine zzm ?_
      refine y_op rfl (OpQ.cast (d' := .int .i64 ((d + 1 : Nat) : Int)) (q_int rfl rfl rfl) (congrArg (D.int .i64) (by show IntKind.i64.wrap _ = _; rw [IntWalk.i64_in _ (by omega)]; omega))) ?_
      refine zza ?_; refine AOps.nil (ARun.inBlock ?_)
      refine ARun.again (ih2 (d + 1) ?_ ?_) ?_ ?_
      · exact ⟨by omega, by omega, d3⟩
      · omega
      · (repeat' first | exact envLe_nil | apply envLe_any | apply envLe_same)
      rfl
    have y2 : ¬ (d + 1 < 256 ∧ rin S (d + 1) = true) := by
      rintro ⟨y1, y2⟩
      unfold rinC at y
      rw [decide_eq_true y1, y2] at y; cases y
    rw [rend_no y2] at d3
    subst d3
    clear ih2 y y2 d2 he
    refine ARun.exit rfl ?_
    refine ARun.seq (ARun.region ?_); refine zzm ?_; refine zzm ?_
    refine y_op rfl (q_conv rfl rfl rfl (show _ = (c : Int) by rw [IntKind.wrap_u8]; omega)) ?_
    refine zzm ?_
    refine y_op rfl (q_conv rfl rfl rfl (show _ = (d : Int) by rw [IntKind.wrap_u8]; omega)) ?_
    refine AOps.yieldI _ rfl rfl rfl (hW _ _ i3) (by rw [hps]; rfl) rfl (hround c d L H i3 i1 d1 hlt (by omega)) ?_ ?_ ?_
    · rintro q H' ⟨rfl, h1, _⟩
      exact h1
    · skip
      rintro H' ⟨_, h1, h2⟩
      refine zzn ?_; refine AOps.nil ?_
      refine ARun.condF rfl ?_
      refine ARun.skip (ARun.inBlock (ARun.region ?_)); refine zzm ?_
      refine y_op rfl (q_add rfl rfl (nadd1_i64 (by omega))) ?_
      refine zza ?_; refine AOps.nil ?_
      have hwl := wr_len c d
      refine ARun.again (ih ((d + 1, L ++ wr c d, H'.set id (loopO .ready ps.toArray asg bd envL))) ?_ ?_) ?_ ?_
      · exact ⟨by (dsimp only; omega), by (dsimp only; omega), h2, by (dsimp only; rw [List.append_assoc]; exact i4), by (dsimp only; rw [List.length_append]; omega)⟩
      · (dsimp only; omega)
      · (repeat' first | exact envLe_nil | apply envLe_any | apply envLe_same)
      rfl
    rintro c _ ⟨h, _⟩
    cases h
  obtain rfl : c = 256 := by omega
  rw [rtx_end, List.append_nil] at i4
  subst i4
  refine ARun.exit rfl ?_
  refine ARun.nil ?_
  exact ⟨_, _, _, .nil, .nil, rfl, i3⟩
end Go.V
set_option maxHeartbeats 4000000
set_option maxRecDepth 100000
namespace Go.V
open Go.RowKit Go.Proofs
/-! PLAIN LAWS OF SETS' TEXTS. -/
def cnt (f : Nat → Nat) (c : Nat) : Nat := if c < 256 then f c + cnt f (c + 1) else 0
termination_by 256 - c
theorem cnt_yes (f : Nat → Nat) {c : Nat} (h : c < 256) : cnt f c = f c + cnt f (c + 1) := by rw [cnt, if_pos h]
theorem cnt_end (f : Nat → Nat) {c : Nat} (h : ¬ c < 256) : cnt f c = 0 := by rw [cnt, if_neg h]
theorem cnt_le {f g : Nat → Nat} (c : Nat) (h : ∀ x, c ≤ x → x < 256 → f x ≤ g x) : cnt f c ≤ cnt g c := by
  by_cases hc : c < 256
  · rw [cnt_yes f hc, cnt_yes g hc]
    have := cnt_le (f := f) (g := g) (c + 1) (fun x h1 h2 => h x (by omega) h2)
    have := h c (Nat.le_refl c) hc
    omega
  rw [cnt_end f hc]; exact Nat.zero_le _
termination_by 256 - c
theorem cnt_add (f g : Nat → Nat) (c : Nat) : cnt (fun x => f x + g x) c = cnt f c + cnt g c := by
  by_cases hc : c < 256
  · rw [cnt_yes _ hc, cnt_yes f hc, cnt_yes g hc, cnt_add f g (c + 1)]; omega
  rw [cnt_end _ hc, cnt_end _ hc, cnt_end _ hc]
termination_by 256 - c
theorem cnt_zero {f : Nat → Nat} (c : Nat) (h : ∀ x, c ≤ x → x < 256 → f x = 0) : cnt f c = 0 := by
  by_cases hc : c < 256
  · rw [cnt_yes f hc, h c (Nat.le_refl c) hc, cnt_zero (c + 1) (fun x h1 h2 => h x (by omega) h2)]
  rw [cnt_end f hc]
termination_by 256 - c
theorem cnt_one {f : Nat → Nat} (c : Nat) {a : Nat} (ha : c ≤ a) (hl : a < 256) (h : ∀ x, c ≤ x → x < 256 → x ≠ a → f x = 0) : cnt f c = f a := by
  rw [cnt_yes f (by omega)]
  by_cases e : c = a
  · subst e
    rw [cnt_zero (c + 1) (fun x h1 h2 => h x (by omega) h2 (by omega))]; rfl
  rw [h c (Nat.le_refl c) (by omega) e, cnt_one (c + 1) (by omega) hl (fun x h1 h2 h3 => h x (by omega) h2 h3)]; omega
termination_by 256 - c
def b2n (b : Bool) : Nat := bif b then 1 else 0
theorem cnt_ssize (S : Nat → Bool) (c : Nat) (h : c ≤ 256) : ssize S 256 = ssize S c + cnt (fun x => b2n (S x)) c := by
  by_cases hc : c < 256
  · rw [cnt_yes _ hc, cnt_ssize S (c + 1) hc, ssize_succ]; unfold b2n; omega
  obtain rfl : c = 256 := by omega
  rw [cnt_end _ hc]; rfl
termination_by 256 - c
theorem ssize_cnt (S : Nat → Bool) : ssize S 256 = cnt (fun x => b2n (S x)) 0 := by
  rw [cnt_ssize S 0 (by decide)]; show 0 + _ = _; rw [Nat.zero_add]
theorem ssize_other {S : Nat → Bool} (h0 : S 0 = false) : ssize S 256 + ssize (sother S) 256 = 255 := by
  rw [ssize_cnt, ssize_cnt, ← cnt_add, cnt_yes _ (by decide : 0 < 256)]
  have e0 : b2n (S 0) + b2n (sother S 0) = 0 := by unfold sother; rw [h0]; rfl
  rw [e0, Nat.zero_add]
  have e : ∀ c, 1 ≤ c → c ≤ 256 → cnt (fun x => b2n (S x) + b2n (sother S x)) c = 256 - c := by
    intro c h1 h2
    generalize hk : 256 - c = k
    induction k generalizing c with
    | zero => rw [cnt_end _ (by omega)]
    | succ k ih =>
      rw [cnt_yes _ (by omega), ih (c + 1) (by omega) (by omega) (by omega)]
      have : b2n (S c) + b2n (sother S c) = 1 := by
        unfold sother
        rw [decide_eq_true (show c ≠ 0 by omega), Bool.and_true]
        cases S c <;> rfl
      omega
  exact e 1 (Nat.le_refl 1) (by decide)
theorem rend_at {T : Nat → Bool} {c d : Nat} (hcd : c ≤ d) (h : ∀ x, c < x → x ≤ d → x < 256 ∧ rin T x = true) (hd : ¬ (d + 1 < 256 ∧ rin T (d + 1) = true)) : rend T c = d := by
  rcases Nat.eq_or_lt_of_le hcd with rfl | g
  · exact rend_no hd
  obtain ⟨a, b⟩ := h (c + 1) (by omega) (by omega)
  rw [rend_yes a b]
  exact rend_at (c := c + 1) g (fun x h1 h2 => h x (by omega) h2) hd
termination_by d - c
theorem one_of {S : Nat → Bool} (h : ssize S 256 = 1) {a x : Nat} (ha : a < 256) (hS : S a = true) (h2 : x < 256) (hne : x ≠ a) : S x = false := by
  cases g : S x
  · rfl
  have : cnt (fun y => (if y = x then 1 else 0) + (if y = a then 1 else 0)) 0 ≤ cnt (fun x => b2n (S x)) 0 := cnt_le 0 fun y _ _ => by
    by_cases e : y = x
    · subst e; rw [if_pos rfl, if_neg hne, g]; exact Nat.le_refl 1
    rw [if_neg e]
    by_cases e2 : y = a
    · subst e2; rw [if_pos rfl, hS]; exact Nat.le_refl 1
    rw [if_neg e2]; exact Nat.zero_le _
  rw [cnt_add, cnt_one (a := x) 0 (Nat.zero_le _) h2 (fun y _ _ hne => if_neg hne), cnt_one (a := a) 0 (Nat.zero_le _) ha (fun y _ _ hne => if_neg hne), if_pos rfl, if_pos rfl, ← ssize_cnt] at this
  omega
theorem sr_in (S : Nat → Bool) (a b x : Nat) : sr S a b x = (S x || (decide (a ≤ x) && decide (x < b))) := rfl
theorem rdI_nz : ∀ (l : List Nat) (S S' : Nat → Bool), (∀ c ∈ l, c ≠ 0) → S 0 = false → rdI S l = some S' → S' 0 = false
  | [], S, S', _, h, e => by injection e with e; rw [← e]; exact h
  | [a], S, S', hz, h, e => by
    rw [rdI, rdI] at e
    injection e with e
    rw [← e, sr_in, h, decide_eq_false (show ¬ a ≤ 0 by have := hz a (by simp); omega)]; rfl
  | [a, b], S, S', hz, h, e => by
    rw [rdI] at e
    refine rdI_nz [b] _ S' (fun c hc => hz c (List.mem_cons_of_mem _ hc)) ?_ e
    rw [sr_in, h, decide_eq_false (show ¬ a ≤ 0 by have := hz a (by simp); omega)]; rfl
  | a :: c :: b :: r, S, S', hz, h, e => by
    have ha : ¬ a ≤ 0 := by have := hz a (by simp); omega
    rw [rdI] at e
    split at e
    · split at e
      · cases e
      refine rdI_nz r _ S' (fun x hx => hz x (List.mem_cons_of_mem _ (List.mem_cons_of_mem _ (List.mem_cons_of_mem _ hx)))) ?_ e
      rw [sr_in, h, decide_eq_false ha]; rfl
    refine rdI_nz (c :: b :: r) _ S' (fun x hx => hz x (List.mem_cons_of_mem _ hx)) ?_ e
    rw [sr_in, h, decide_eq_false ha]; rfl
termination_by l => l.length
end Go.V
set_option maxHeartbeats 8000000
set_option maxRecDepth 100000
set_option synthInstance.maxSize 100000
set_option synthInstance.maxHeartbeats 2000000
namespace Go.V
open Go.RowKit Go.Proofs
/-! HOW A SET IS WRITTEN. -/
abbrev sCar : Nat → Bool := swith sempty 94
abbrev sDash : Nat → Bool := swith sempty 45
abbrev sBoth : Nat → Bool := swith sCar 45
theorem ssize_congr {S T : Nat → Bool} (h : ∀ c, c < 256 → S c = T c) : ssize S 256 = ssize T 256 := by
  rw [ssize_cnt, ssize_cnt]
  exact Nat.le_antisymm (cnt_le 0 fun x _ hx => by rw [h x hx]; exact Nat.le_refl _) (cnt_le 0 fun x _ hx => by rw [h x hx]; exact Nat.le_refl _)
theorem sBoth_at (c : Nat) : sBoth c = (decide (c = 94) || decide (c = 45)) := rfl
theorem sCar_at (c : Nat) : sCar c = decide (c = 94) := rfl
theorem cnt_ind (a : Nat) (h : a < 256) : cnt (fun y => b2n (decide (y = a))) 0 = 1 := by
  rw [cnt_one (a := a) 0 (Nat.zero_le _) h (fun y _ _ hne => by unfold b2n; rw [decide_eq_false hne]; rfl), decide_eq_true rfl]; rfl
theorem ssize_car : ssize sCar 256 = 1 := by rw [ssize_cnt]; exact cnt_ind 94 (by decide)
theorem ssize_both : ssize sBoth 256 = 2 := by
  have e : cnt (fun y => b2n (decide (y = 94)) + b2n (decide (y = 45))) 0 = 2 := by rw [cnt_add, cnt_ind 94 (by decide), cnt_ind 45 (by decide)]
  rw [ssize_cnt, ← e]
  have : ∀ y, b2n (sBoth y) = b2n (decide (y = 94)) + b2n (decide (y = 45)) := fun y => by
    rw [sBoth_at]
    by_cases h1 : y = 94
    · subst h1; rfl
    rw [decide_eq_false h1]; unfold b2n; simp
  simp only [this]
theorem sEq_car {S : Nat → Bool} : sEq S sCar = (decide (ssize S 256 = 1) && S 94) := by
  rw [Bool.eq_iff_iff, sEq_ext, Bool.and_eq_true, decide_eq_true_eq]
  constructor
  · intro h
    exact ⟨(ssize_congr h).trans ssize_car, (h 94 (by decide)).trans rfl⟩
  rintro ⟨h1, h2⟩ c hc
  rw [sCar_at]
  by_cases e : c = 94
  · subst e; rw [h2]; rfl
  rw [decide_eq_false e]; exact one_of h1 (by decide) h2 hc e
theorem two_of {S : Nat → Bool} (h : ssize S 256 = 2) {a b x : Nat} (ha : a < 256) (hb : b < 256) (hab : a ≠ b) (hS : S a = true) (hT : S b = true) (h2 : x < 256) (hxa : x ≠ a) (hxb : x ≠ b) : S x = false := by
  cases g : S x
  · rfl
  have : cnt (fun y => b2n (decide (y = x)) + (b2n (decide (y = a)) + b2n (decide (y = b)))) 0 ≤ cnt (fun x => b2n (S x)) 0 := cnt_le 0 fun y _ _ => by
    by_cases e : y = x
    · subst e; rw [decide_eq_false hxa, decide_eq_false hxb, decide_eq_true rfl, g]; exact Nat.le_refl 1
    rw [decide_eq_false e]
    by_cases e2 : y = a
    · subst e2; rw [decide_eq_false hab, decide_eq_true rfl, hS]; exact Nat.le_refl 1
    rw [decide_eq_false e2]
    by_cases e3 : y = b
    · subst e3; rw [decide_eq_true rfl, hT]; exact Nat.le_refl 1
    rw [decide_eq_false e3]; exact Nat.zero_le _
  rw [cnt_add, cnt_add, cnt_ind x h2, cnt_ind a ha, cnt_ind b hb, ← ssize_cnt] at this
  omega
theorem sEq_both {S : Nat → Bool} : sEq S sBoth = ((decide (ssize S 256 = 2) && S 94) && S 45) := by
  rw [Bool.eq_iff_iff, sEq_ext, Bool.and_eq_true, Bool.and_eq_true, decide_eq_true_eq]
  constructor
  · intro h
    exact ⟨⟨(ssize_congr h).trans ssize_both, (h 94 (by decide)).trans rfl⟩, (h 45 (by decide)).trans rfl⟩
  rintro ⟨⟨h1, h2⟩, h3⟩ c hc
  rw [sBoth_at]
  by_cases e : c = 94
  · subst e; rw [h2]; rfl
  by_cases e2 : c = 45
  · subst e2; rw [h3]; rfl
  rw [decide_eq_false e, decide_eq_false e2]
  exact two_of h1 (by decide) (by decide) (by decide) h2 h3 hc e e2
theorem ssize_255 {S : Nat → Bool} (h0 : S 0 = false) : ssize S 256 ≤ 255 := by have := ssize_other h0; omega
theorem neg_alt {n : Nat} {b q : Bool} (hn : n ≤ 255) (hq : q = (decide (n = 1) && b)) : (!(((decide (1 ≤ n) && decide (n ≤ 127)) && !q) || decide (n = 255))) = setNeg n b := by
  subst hq
  unfold setNeg
  by_cases h0 : n = 0
  · subst h0; cases b <;> rfl
  by_cases h1 : n = 1
  · subst h1; cases b <;> rfl
  rw [decide_eq_false h0, decide_eq_false h1, decide_eq_true (show 1 ≤ n by omega), Bool.false_and, Bool.false_or, Bool.or_false, Bool.true_and, Bool.not_false, Bool.and_true]
  by_cases h2 : n ≤ 127
  · rw [decide_eq_true h2, decide_eq_false (show ¬ 127 < n by omega)]; rfl
  rw [decide_eq_false h2, decide_eq_true (show 127 < n by omega), Bool.false_or, Bool.true_and, ← decide_not]
  exact decide_eq_decide.2 (by omega)
theorem word_dash (T : Nat → Bool) : (((sw T 0 &&& sw sDash 0 : Nat) : Int) != 0) = T 45 := by
  have hd : sw sDash 0 = 2 ^ 45 := (sw_ext (by decide) fun j hj => by
    rw [Nat.testBit_two_pow]
    unfold sDash swith sempty
    rw [Bool.false_or]
    exact decide_eq_decide.2 (by omega)).symm
  rw [hd]
  have hb : (sw T 0).testBit 45 = T 45 := sw_bit T 0 (by decide)
  rw [← hb]
  have ht : (sw T 0 &&& 2 ^ 45).testBit 45 = (sw T 0).testBit 45 := by rw [Nat.testBit_and, Nat.testBit_two_pow_self, Bool.and_true]
  cases e : (sw T 0).testBit 45
  · have h0 : sw T 0 &&& 2 ^ 45 = 0 := Nat.eq_of_testBit_eq fun i => by
      rw [Nat.testBit_and, Nat.testBit_two_pow, Nat.zero_testBit]
      by_cases hi : 45 = i
      · subst hi; rw [e]; rfl
      rw [decide_eq_false hi, Bool.and_false]
    rw [h0]; rfl
  rw [e] at ht
  have hne : sw T 0 &&& 2 ^ 45 ≠ 0 := fun h => by rw [h, Nat.zero_testBit] at ht; cases ht
  rw [bne_iff_ne]
  omega
theorem setBody_lt (T : Nat → Bool) : ∀ x ∈ setBody T, x < 256 := by
  unfold setBody
  intro x hx
  have hp : ∀ b c, c < 256 → x ∈ pre1 b c → x < 256 := fun b c hc h => by
    cases b
    · cases h
    have h : x ∈ [c] := h
    rw [List.mem_singleton] at h; omega
  rw [List.mem_append, List.mem_append, List.mem_append] at hx
  rcases hx with h | h | h | h
  · exact hp _ 93 (by decide) h
  · exact rtx_lt T 1 x h
  · exact hp _ 94 (by decide) h
  exact hp _ 45 (by decide) h
theorem setTx_lt (S : Nat → Bool) : ∀ x ∈ (setTx S).1, x < 256 := by
  unfold setTx
  cases S 0
  · rw [cond_false]
    cases setNeg (ssize S 256) (S 94)
    · rw [cond_false]
      cases (decide (ssize S 256 = 2) && S 94) && S 45
      · exact setBody_lt S
      intro x hx
      have hx : x ∈ [45, 94] := hx
      simp only [List.mem_cons, List.not_mem_nil, or_false] at hx; omega
    intro x hx
    have hx : x ∈ 94 :: setBody (sother S) := hx
    rw [List.mem_cons] at hx
    exact hx.elim (fun e => by omega) (setBody_lt _ x)
  intro x hx; cases hx
theorem BldS.set {H : Heap} {k j : Nat} {L : List Nat} {o : AObj} {x : Option AObj} (h : BldS H k L) (hj : H[j]? = some (some o)) (hne : j ≠ k) (he : o.elem ≠ Zbl) : BldS (H.set j x) k L :=
  h.keep fun i y hy hc => by
    rcases hc with hc | rfl
    · have : j ≠ i := by rintro rfl; rw [hj] at hy; injection hy with hy; injection hy with hy; subst hy; exact he hc
      rw [List.getElem?_set_ne this]; exact hy
    rw [List.getElem?_set_ne hne]; exact hy
theorem BldS.app {H M : Heap} {k : Nat} {L : List Nat} (h : BldS H k L) : BldS (H ++ M) k L :=
  h.keep fun i y hy _ => by rw [List.getElem?_append_left (List.getElem?_eq_some_iff.1 hy).1]; exact hy
theorem get_app {H M : Heap} {i : Nat} {x : Option AObj} (h : H[i]? = some x) : (H ++ M)[i]? = some x := by
  rw [List.getElem?_append_left (List.getElem?_eq_some_iff.1 h).1]; exact h
theorem ZgJ {env : List D} {H : Heap} {dst : Option Tmp} {x y : Operand} {ty T' : TypeId} {pos : String} {aft : Array Edge} {gd : Option (Nat × Bool)} {S T : Nat → Bool} (hx : evO C env x = some (setD S)) (hy : evO C env y = some (setD T)) :
    OpQ C ⟨dst, .binOp .neq Zai x y T', ty, pos, aft, gd⟩ env H (.bool (!sEq S T)) :=
  Zf4 (m := 2) (f := 2) (by kernel_rfl) (by decide) (by kernel_rfl) hx hy rfl rfl rfl rfl (set_lits (sw_lt S 0) (sw_lt S 1) (sw_lt S 2) (sw_lt S 3)) (set_lits (sw_lt T 0) (sw_lt T 1) (sw_lt T 2) (sw_lt T 3)) (by
    unfold sEq
    rw [decide_eq_true_eq]
    simp only [List.cons.injEq, Lit.int.injEq, true_and, and_true, Int.ofNat_inj])
abbrev setO (T : Nat → Bool) : Option AObj := some ⟨swL T, Zai, 1, true, none⟩
end Go.V
set_option maxHeartbeats 8000000
set_option maxRecDepth 100000
set_option synthInstance.maxSize 100000
set_option synthInstance.maxHeartbeats 2000000
namespace Go.V
open Go.RowKit Go.Proofs
theorem ne28 : Zai ≠ Zbl := by decide
theorem ne0 : (0 : TypeId) ≠ Zbl := by decide
theorem get_last {A : Heap} {x : Option AObj} {n : Nat} (h : n = A.length) : (A ++ [x])[n]? = some x := by
  subst h; rw [List.getElem?_append_right (Nat.le_refl _)]; simp
theorem rnd_in {H : Heap} {n : Nat} {ps : Array Tmp} {asg bd : Code} {env : List D} {L : List Nat} {T : Nat → Bool} (hn : 2 ≤ n) (wb : BldS H 1 L) (w0 : H[0]? = some (setO T)) (w1 : H[n]? = some defsO) (w2 : H[n + 1]? = some (loopO .ready ps asg bd env)) :
    ∃ HB, HB = H.set (n + 1) (loopO .busy ps asg bd env) ∧ BldS HB 1 L ∧ ∀ (H2 : Heap) (M : List Nat), BldS H2 1 M → KeepB HB H2 1 →
      H2[n + 1]? = some (loopO .busy ps asg bd env) ∧ BldS (H2.set (n + 1) (loopO .ready ps asg bd env)) 1 M ∧ (H2.set (n + 1) (loopO .ready ps asg bd env))[0]? = some (setO T) ∧ (H2.set (n + 1) (loopO .ready ps asg bd env))[n]? = some defsO ∧ (H2.set (n + 1) (loopO .ready ps asg bd env))[n + 1]? = some (loopO .ready ps asg bd env) := by
  refine ⟨_, rfl, wb.set w2 (by omega) ne0, fun H2 M hb hk => ?_⟩
  have z2 := hk.2 _ _ (heap_set_get (y := loopO .busy ps asg bd env) w2) (by omega) ne0
  have z0 := hk.2 0 _ (by rw [List.getElem?_set_ne (by omega)]; exact w0) (by decide) ne28
  have z1 := hk.2 n _ (by rw [List.getElem?_set_ne (by omega)]; exact w1) (by omega) ne0
  exact ⟨z2, hb.set z2 (by omega) ne0, by rw [List.getElem?_set_ne (by omega)]; exact z0, by rw [List.getElem?_set_ne (by omega)]; exact z1, heap_set_get z2⟩
theorem BldS.two {H : Heap} {L : List Nat} (h : BldS H 1 L) : 2 ≤ H.length := by
  obtain ⟨p, d, _, hk, _⟩ := h
  exact (List.getElem?_eq_some_iff.1 hk).1
theorem Zd2 (S : Nat → Bool) : PC C ZbL [setD S] (fun o => o = .ret (.tup [.str (bytesOf (setTx S).1), .int .i64 (setTx S).2])) := by
  obtain ⟨R, hR⟩ : ∃ R, R = setTx S := ⟨_, rfl⟩
  have hRlt : ∀ x ∈ R.1, x < 256 := by rw [hR]; exact setTx_lt S
  have hRlen : R.1.length ≤ 300 := by rw [hR]; exact setTx_len S
  rw [← hR]
  unfold setTx at hR
  have hn5 := fun h => ssize_255 (S := S) h
  have hcar := sEq_car (S := S)
  have hboth := sEq_both (S := S)
  have hsz := Zf3 S
  generalize ssize S 256 = n at *
  refine PC.rn ZbA Zc9 Zda (rs := [.tmp 2, .tmp 3]) (by rw [Zdb]) ?_
  refine ARun.seq (ARun.region ?_)
  refine y_new rfl (n_box rfl rfl rfl) ?_
  refine zza ?_; refine zza ?_; refine AOps.nil (ARun.seq (ARun.seq (ARun.region ?_)))
  refine y_op rfl (Zaf rfl rfl rfl rfl rfl rfl) ?_
  refine zzc rfl rfl (ZbU S 0 (by decide)) ?_
  refine AOps.nil ?_
  refine ARun.cond rfl (fun h0 => ?_) (fun h0 => ?_)
  · skip
    rw [h0, cond_true] at hR
    subst hR
    refine ARun.seq (ARun.region ?_); refine zza ?_; refine zza ?_; refine AOps.nil ?_
    refine ARun.ret ?_
    refine ⟨_, _, _, .tmp rfl (.tmp rfl .nil), .cons (.same _) (.cons (.same _) .nil), rfl, ?_⟩
    rfl
  rw [h0, cond_false] at hR
  have hn5 := hn5 h0
  refine ARun.skip (ARun.seq (ARun.region ?_))
  refine y_op rfl (Zaf rfl rfl rfl rfl rfl rfl) ?_
  refine zzc rfl rfl (hsz) ?_
  refine zza ?_; refine AOps.nil (ARun.seq (ARun.region ?_))
  refine y_op rfl (OpQ.cast (d' := setD sempty) (Zbh rfl rfl rfl) (by show D.agg [_, _, _, _] = D.agg (swL sempty); rw [swL_empty])) ?_
  refine zzc rfl rfl (ZdA sempty 94 (by decide)) ?_
  refine y_op rfl (OpQ.cast (d' := setD sempty) (Zbh rfl rfl rfl) (by show D.agg [_, _, _, _] = D.agg (swL sempty); rw [swL_empty])) ?_
  refine zzc rfl rfl (ZdA sempty 45 (by decide)) ?_
  refine Zf2 (alW rfl rfl rfl rfl rfl rfl rfl rfl rfl rfl rfl) (alW rfl rfl rfl rfl rfl rfl rfl rfl rfl rfl rfl) rfl ?_
  refine AOps.nil (ARun.seq (ARun.seq ?_))
  refine ARun.drawnP 4 (fun _ => False) mixC rfl rfl (by kernel_rfl) (fun _ _ h => h.elim) ?_
  refine .op rfl (Zaf rfl rfl rfl rfl rfl rfl) ?_
  refine .op rfl (ZaR rfl rfl rfl rfl rfl) ?_
  refine .op rfl (q_call rfl rfl (ZdA sCar 45 (by decide))) ?_
  refine .op rfl (ZgI rfl rfl) ?_
  refine .nil (fun hG => ?_)
  refine AOps.nil ?_
  refine ARun.cond rfl (fun d => ?_) (fun d => ?_)
  · skip
    rw [d] at hboth
    have hng : setNeg n (S 94) = false := by
      have hb := hboth.symm
      rw [Bool.and_eq_true, Bool.and_eq_true, decide_eq_true_eq] at hb
      obtain ⟨⟨rfl, _⟩, _⟩ := hb
      unfold setNeg; cases S 94 <;> rfl
    rw [hng, cond_false, ← hboth, cond_true] at hR
    subst hR
    refine ARun.seq (ARun.region ?_); refine zza ?_; refine zza ?_; refine AOps.nil ?_
    refine ARun.ret ?_
    refine ⟨_, _, _, .tmp rfl (.tmp rfl .nil), .cons (.same _) (.cons (.same _) .nil), rfl, ?_⟩
    rfl
  rw [d] at hboth
  rw [← hboth, cond_false] at hR
  refine ARun.skip (ARun.seq (ARun.region ?_))
  refine y_new rfl (Zbk rfl rfl rfl rfl) ?_
  refine AOps.nil (ARun.seq (ARun.seq (ARun.region ?_))); refine zzm ?_
  refine y_op rfl (OpQ.cast (d' := .bool (decide (1 ≤ n))) (q_int rfl rfl rfl) (congrArg D.bool (decide_eq_decide.2 (by omega)))) ?_
  refine zzm ?_
  apply AOps.andJ 25 (fun sj1 => [(25, .any), (26, .any), (27, .any), (28, .bool sj1)]) rfl
  · intro hj1 run1
    try replace hj1 := of_decide_eq_true hj1
    refine zzm ?_
    refine y_op rfl (OpQ.cast (d' := .bool (decide (n ≤ 127))) (q_int rfl rfl rfl) (congrArg D.bool (decide_eq_decide.2 (by omega)))) ?_
    refine zzp ?_
    exact AOps.ag run1
  · intro hj1 run1
    try replace hj1 := of_decide_eq_false hj1
    refine zzk ?_; refine zzk ?_; refine zzp ?_
    exact AOps.ag run1
  refine zzm ?_
  apply AOps.andJ 29 (fun sj2 => [(29, .any), (30, .any), (31, .any), (32, .any), (33, .bool sj2)]) rfl
  · intro hj2 run2
    try replace hj2 := of_decide_eq_true hj2
    refine y_op rfl (Zaf rfl rfl rfl rfl rfl rfl) ?_
    refine zzL ?_
    refine y_op rfl (ZgJ rfl rfl) ?_
    refine zzp ?_
    exact AOps.ag run2
  · intro hj2 run2
    try replace hj2 := of_decide_eq_false hj2
    refine zzk ?_; refine zzk ?_; refine zzk ?_; refine zzp ?_
    exact AOps.ag run2
  refine zzm ?_
  apply AOps.orJ 34 (fun sj3 => [(34, .any), (35, .any), (36, .any), (37, .bool sj3)]) rfl
  · intro hj3 run3
    try replace hj3 := of_decide_eq_true hj3
    refine zzk ?_; refine zzk ?_; refine zzp ?_
    exact AOps.ag run3
  · intro hj3 run3
    try replace hj3 := of_decide_eq_false hj3
    refine zzm ?_
    refine y_op rfl (OpQ.cast (d' := .bool (decide (n = 255))) (q_int rfl rfl rfl) (congrArg D.bool (decide_eq_decide.2 (by omega)))) ?_
    refine zzp ?_
    exact AOps.ag run3
  refine y_op rfl (OpQ.cast (q_not rfl) (congrArg D.bool (neg_alt (n := n) (b := S 94) hn5 hcar))) ?_
  refine AOps.nil ?_
  generalize setNeg n (S 94) = ng at *
  refine ARun.joinH (S := List Nat × (Nat → Bool) × Heap) (fun σ : List Nat × (Nat → Bool) × Heap => [(39, .any), (40, .any), (41, .any)]) (fun σ : List Nat × (Nat → Bool) × Heap => σ.2.2) (fun σ : List Nat × (Nat → Bool) × Heap => BldS σ.2.2 1 σ.1 ∧ σ.2.2[0]? = some (setO σ.2.1) ∧ R = (σ.1 ++ setBody σ.2.1, 0) ∧ σ.1.length ≤ 1) (fun run => ?_) ?_
  · skip
    refine ARun.cond rfl (fun y => ?_) (fun y => ?_)
    · skip
      rw [y, cond_true] at hR
      refine ARun.seq (ARun.region ?_)
      refine Zad rfl rfl rfl rfl (Za7 [setO S, bldO .nilptr .nilsl] 1 [] (.new rfl) 94 (by decide)) ?_ (by rintro _ _ ⟨h, _⟩; cases h)
      rintro q1 H1 ⟨e1, b1, k1⟩
      injection e1 with e1
      subst e1
      have g1 := k1.2 0 _ rfl (by decide) ne28
      refine AOps.nil (ARun.region ?_)
      refine y_op rfl (Zaf rfl rfl rfl g1 rfl rfl) ?_
      refine zzc rfl rfl (ZeH S) ?_
      refine y_new rfl (Zaw rfl rfl rfl rfl rfl rfl g1 rfl (Nat.le_of_ble_eq_true rfl) rfl) ?_
      refine AOps.nil ?_
      exact ARun.ag (run (([94], sother S, H1.set 0 (setO (sother S)))) (⟨b1.set g1 (by decide) ne28, heap_set_get g1, hR, Nat.le_refl 1⟩))
    rw [y, cond_false] at hR
    refine ARun.skip ?_
    exact ARun.ag (run (([], S, [setO S, bldO .nilptr .nilsl])) (⟨.new rfl, rfl, hR, Nat.zero_le 1⟩))
  rintro ⟨P, T, H⟩ hj
  try dsimp only at hj ⊢
  obtain ⟨b1, g1, r1, l1⟩ := hj
  clear hR hboth hcar hsz h0 d hn5
  refine ARun.seq (ARun.seq (ARun.region ?_))
  refine y_op rfl (Zaf rfl rfl rfl g1 rfl rfl) ?_
  refine zzc rfl rfl (ZbU T 93 (by decide)) ?_
  refine AOps.nil ?_
  refine ARun.joinH (S := List Nat × Heap) (fun σ : List Nat × Heap => [(44, .any)]) (fun σ : List Nat × Heap => σ.2) (fun σ : List Nat × Heap => BldS σ.2 1 σ.1 ∧ σ.2[0]? = some (setO T) ∧ R = (σ.1 ++ (rtx T 1 ++ (pre1 (T 94) 94 ++ pre1 (T 45) 45)), 0) ∧ σ.1.length ≤ 2) (fun run => ?_) ?_
  · skip
    unfold setBody at r1
    refine ARun.cond rfl (fun y => ?_) (fun y => ?_)
    · skip
      rw [y] at r1
      refine ARun.region ?_
      refine Zad rfl rfl rfl rfl (Za7 H 1 P b1 93 (by omega)) ?_ (by rintro _ _ ⟨h, _⟩; cases h)
      rintro q1 H1 ⟨e1, b2, k2⟩
      injection e1 with e1
      subst e1
      refine AOps.nil ?_
      exact ARun.ag (run ((P ++ [93], H1)) (⟨b2, k2.2 0 _ g1 (by decide) ne28, (by rw [List.append_assoc]; exact r1), (by rw [List.length_append]; exact Nat.succ_le_succ l1)⟩))
    rw [y] at r1
    refine ARun.skip ?_
    exact ARun.ag (run ((P, H)) (⟨b1, g1, r1, Nat.le_succ_of_le l1⟩))
  rintro ⟨P1, H1⟩ hj
  try dsimp only at hj ⊢
  clear b1 g1 r1 l1
  obtain ⟨b1, g1, r1, l1⟩ := hj
  refine ARun.seq (ARun.seq (ARun.region ?_))
  refine y_op rfl (Zaf rfl rfl rfl g1 rfl rfl) ?_
  refine zzc rfl rfl (Zf7 T) ?_
  refine AOps.nil (ARun.block ?_)
  have hn2 := b1.two
  refine ARun.rangeFn (n := H1.length) rfl rfl rfl (Zgr T _ (H1.length + 1) [47, 48] rfl _ _ _ (fun L H' => BldS H' 1 L ∧ H'[0]? = some (setO T) ∧ H'[H1.length]? = some defsO ∧ H'[H1.length + 1]? = some (loopO .ready _ _ _ _)) P1 (fun L H' h => h.2.2.2) (fun c d L H' hw hc hcd hd hL => ?_) ⟨(b1.app).app, get_app (get_app g1), get_app (get_last rfl), get_last (by simp)⟩) ?_ ?_
  · skip
    refine ARun.env0 (by simp only [setL, List.zip_cons_cons, List.zip_nil_right, List.set_cons_succ, List.set_cons_zero]; exact rfl) ?_
    obtain ⟨wb, w0, w1, w2⟩ := hw
    obtain ⟨HB, eB, vb, fin⟩ := rnd_in hn2 wb w0 w1 w2
    refine ARun.seq (ARun.region ?_); refine zza ?_; refine AOps.nil (ARun.region ?_); refine zza ?_; refine AOps.nil ?_
    refine ARun.beginRoundI rfl (w2) ?_
    refine ARun.block (ARun.seq (ARun.seq (ARun.region ?_))); refine zzm ?_; refine zzm ?_
    refine y_op rfl (OpQ.cast (d' := .int .u8 ((d - c : Nat) : Int)) (q_int rfl rfl rfl) (congrArg (D.int .u8) (by show IntKind.u8.wrap _ = _; rw [IntKind.wrap_u8]; omega))) ?_
    refine zzi ?_
    rw [← eB]
    refine AOps.nil ?_
    refine ARun.ite rfl (fun z => ?_) (fun z => ?_)
    · skip
      have z : c + 2 ≤ d := by omega
      have hwr : wr c d = [c, 45, d] := if_pos z
      refine ARun.seq (ARun.region ?_); refine zzm ?_; refine zzm ?_
      refine y_op rfl (ZbH rfl rfl rfl rfl rfl rfl rfl rfl rfl rfl rfl (by decide) (by decide) rfl) ?_
      refine Zad rfl rfl rfl rfl (Zgo _ 1 L vb [c, 45, d] (Nat.succ_pos _) (by show L.length + 3 ≤ _; omega)) ?_ (by rintro _ _ ⟨h, _⟩; cases h)
      rintro q1 H3 ⟨e1, b3, k3⟩
      injection e1 with e1
      subst e1
      refine AOps.nil ?_
      refine ARun.exit rfl ?_
      refine ARun.nil ⟨rfl, rfl, ?_⟩
      rw [hwr]
      exact fin _ _ b3 k3
    have z : ¬ c + 2 ≤ d := by omega
    have hwr : wr c d = (List.range (d + 1 - c)).map (c + ·) := if_neg z
    refine ARun.skip (ARun.seq (ARun.region ?_)); refine zzm ?_
    refine y_op rfl (q_conv rfl rfl rfl (nconv_i64 (by omega))) ?_
    refine zza ?_; refine AOps.nil (ARun.block ?_)
    refine ARun.loopI (S := Nat × List Nat × Heap) (fun σ : Nat × List Nat × Heap => [(10, .int .i64 ((c + σ.1 : Nat) : Int)), (59, .any), (60, .any), (61, .any), (62, .any), (63, .any), (64, .any), (65, .any), (66, .any), (67, .any)]) (fun σ : Nat × List Nat × Heap => σ.2.2) (fun σ : Nat × List Nat × Heap => c + σ.1 ≤ d + 1 ∧ σ.2.1 = L ++ (List.range σ.1).map (c + ·) ∧ BldS σ.2.2 1 σ.2.1 ∧ KeepB HB σ.2.2 1) (fun σ : Nat × List Nat × Heap => d + 1 - (c + σ.1)) ((0, L, HB)) ?_ ?_ ?_ ?_
    · exact ⟨by dsimp only; omega, by dsimp only; rw [List.range_zero, List.map_nil, List.append_nil], vb, KeepB.refl _ _⟩
    · (repeat' first | exact envLe_nil | apply envLe_any | apply envLe_same)
    · rfl
    rintro ⟨m, L1, H3⟩ hinv ih
    dsimp only at hinv ih ⊢
    obtain ⟨m1, m2, m3, m4⟩ := hinv
    have hll := congrArg List.length m2
    rw [List.length_append, List.length_map, List.length_range] at hll
    refine ARun.seq (ARun.seq (ARun.region ?_)); refine zzm ?_; refine zzm ?_
    refine y_op rfl (q_conv rfl rfl rfl (nconv_i64 (by omega))) ?_
    refine zzi ?_; refine AOps.nil ?_
    refine ARun.ite rfl (fun f => ?_) (fun f => ?_)
    · skip
      have f : c + m ≤ d := by omega
      refine ARun.skip (ARun.seq (ARun.block (ARun.region ?_))); refine zzm ?_
      refine y_op rfl (q_conv rfl rfl rfl (show _ = ((c + m : Nat) : Int) by rw [IntKind.wrap_u8]; omega)) ?_
      refine Zad rfl rfl rfl rfl (Za7 H3 1 L1 m3 (c + m) (by omega)) ?_ (by rintro _ _ ⟨h, _⟩; cases h)
      rintro q1 H4 ⟨e1, b4, k4⟩
      injection e1 with e1
      subst e1
      refine AOps.nil (ARun.inBlock (ARun.region ?_)); refine zzm ?_
      refine y_op rfl (OpQ.cast (d' := .int .i64 ((c + (m + 1) : Nat) : Int)) (q_int rfl rfl rfl) (congrArg (D.int .i64) (by show IntKind.i64.wrap _ = _; rw [IntWalk.i64_in _ (by omega)]; omega))) ?_
      refine zza ?_; refine AOps.nil ?_
      refine ARun.again (ih ((m + 1, L1 ++ [c + m], H4)) ?_ ?_) ?_ ?_
      · exact ⟨by dsimp only; omega, by dsimp only; rw [m2, List.range_succ, List.map_append, List.append_assoc]; rfl, b4, m4.trans k4⟩
      · (dsimp only; omega)
      · (repeat' first | exact envLe_nil | apply envLe_any | apply envLe_same)
      rfl
    obtain rfl : m = d + 1 - c := by omega
    rw [← hwr] at m2
    subst m2
    refine ARun.exit rfl ?_
    refine ARun.inBlock ?_
    refine ARun.nil ⟨rfl, rfl, ?_⟩
    exact fin _ _ m3 m4
  · rintro q2 H2 ⟨h, hb, w0, w1, w2⟩
    injection h with h
    subst h
    refine ⟨.ready, w2, ?_⟩
    have b2 := hb.set (x := none) w2 (by omega) ne0
    have v0 : (H2.set (H1.length + 1) none)[0]? = some (setO T) := by rw [List.getElem?_set_ne (by omega)]; exact w0
    have v1 : (H2.set (H1.length + 1) none)[H1.length]? = some defsO := by rw [List.getElem?_set_ne (by omega)]; exact w1
    clear hb w0 w1 w2 b1 g1 l1
    obtain ⟨G, hG⟩ : ∃ G, G = H2.set (H1.length + 1) none := ⟨_, rfl⟩
    rw [← hG] at b2 v0 v1 ⊢
    clear hG
    obtain ⟨P2, hP2⟩ : ∃ P2, P2 = P1 ++ rtx T 1 := ⟨_, rfl⟩
    rw [← List.append_assoc, ← hP2] at r1
    rw [← hP2] at b2
    clear hP2
    have hl2 : P2.length ≤ 300 := by
      have := congrArg (fun x => x.1.length) r1
      simp only [List.length_append] at this
      omega
    refine ARun.inBlock (ARun.seq (ARun.seq (ARun.region ?_)))
    refine y_op rfl (Zaf rfl rfl rfl v0 rfl rfl) ?_
    refine zzc rfl rfl (ZbU T 94 (by decide)) ?_
    refine AOps.nil ?_
    refine ARun.joinH (S := List Nat × Heap) (fun σ : List Nat × Heap => [(70, .any)]) (fun σ : List Nat × Heap => σ.2) (fun σ : List Nat × Heap => BldS σ.2 1 σ.1 ∧ σ.2[0]? = some (setO T) ∧ σ.2[H1.length]? = some defsO ∧ R = (σ.1 ++ pre1 (T 45) 45, 0)) (fun run => ?_) ?_
    · skip
      refine ARun.cond rfl (fun y => ?_) (fun y => ?_)
      · skip
        rw [y] at r1
        refine ARun.region ?_
        refine Zad rfl rfl rfl rfl (Za7 G 1 P2 b2 94 (by omega)) ?_ (by rintro _ _ ⟨h, _⟩; cases h)
        rintro q1 H3 ⟨e1, b3, k3⟩
        injection e1 with e1
        subst e1
        refine AOps.nil ?_
        exact ARun.ag (run ((P2 ++ [94], H3)) (⟨b3, k3.2 0 _ v0 (by decide) ne28, k3.2 _ _ v1 (by omega) ne0, (by rw [List.append_assoc]; exact r1)⟩))
      rw [y] at r1
      refine ARun.skip ?_
      exact ARun.ag (run ((P2, G)) (⟨b2, v0, v1, r1⟩))
    rintro ⟨P3, H3⟩ hj
    try dsimp only at hj ⊢
    clear b2 v0 v1 r1 hl2
    obtain ⟨b3, v0, v1, r1⟩ := hj
    have hl3 : P3.length ≤ 300 := by
      have := congrArg (fun x => x.1.length) r1
      simp only [List.length_append] at this
      omega
    refine ARun.seq (ARun.seq (ARun.region ?_))
    refine y_op rfl (Zbw rfl rfl rfl rfl (by omega) (by omega) rfl) ?_
    refine y_op rfl (Zaa rfl rfl rfl v0 rfl) ?_
    refine y_op rfl (Zb0 rfl rfl rfl rfl (by omega) (by omega) rfl) ?_
    refine zzl ?_
    refine y_op rfl (OpQ.cast (d' := .int .u64 ((sw T 0 &&& sw sDash 0 : Nat) : Int)) (q_int rfl rfl rfl) (congrArg (D.int .u64) (land_u64 (sw_lt _ _) (sw_lt _ _)))) ?_
    refine y_op rfl (OpQ.cast (d' := .bool (T 45)) (q_int rfl rfl rfl) (congrArg D.bool (word_dash T))) ?_
    refine AOps.nil ?_
    refine ARun.joinH (S := List Nat × Heap) (fun σ : List Nat × Heap => [(77, .any)]) (fun σ : List Nat × Heap => σ.2) (fun σ : List Nat × Heap => BldS σ.2 1 σ.1 ∧ σ.2[H1.length]? = some defsO ∧ R = (σ.1, 0)) (fun run => ?_) ?_
    · skip
      refine ARun.cond rfl (fun y => ?_) (fun y => ?_)
      · skip
        rw [y] at r1
        refine ARun.region ?_
        refine Zad rfl rfl rfl rfl (Za7 H3 1 P3 b3 45 (by omega)) ?_ (by rintro _ _ ⟨h, _⟩; cases h)
        rintro q1 H4 ⟨e1, b4, k4⟩
        injection e1 with e1
        subst e1
        refine AOps.nil ?_
        exact ARun.ag (run ((P3 ++ [45], H4)) (⟨b4, k4.2 _ _ v1 (by omega) ne0, r1⟩))
      rw [y] at r1
      refine ARun.skip ?_
      exact ARun.ag (run ((P3, H3)) (⟨b3, v1, (by rw [r1]; show (P3 ++ [], _) = _; rw [List.append_nil])⟩))
    rintro ⟨P4, H4⟩ hj
    try dsimp only at hj ⊢
    clear b3 v0 v1 r1 hl3
    obtain ⟨b4, v1, r1⟩ := hj
    subst r1
    refine ARun.seq (ARun.region ?_)
    refine Zad rfl rfl rfl rfl (Zfi H4 1 P4 b4 hRlt (by show P4.length ≤ _; have : P4.length ≤ 300 := hRlen; omega)) ?_ (by rintro _ _ ⟨h, _⟩; cases h)
    rintro q1 H5 ⟨e1, k5⟩
    injection e1 with e1
    subst e1
    have v5 := k5.2 _ _ v1 (by omega) ne0
    refine zza ?_; refine zza ?_; refine AOps.nil ?_
    refine ARun.ret ?_
    exact ⟨⟨_, v5, rfl, rfl⟩, _, _, _, .tmp rfl (.tmp rfl .nil), .cons (.same _) (.cons (.same _) .nil), rfl, rfl⟩
  rintro q2 H2 ⟨h, _⟩
  cases h
end Go.V
set_option maxHeartbeats 8000000
set_option maxRecDepth 100000
set_option synthInstance.maxSize 100000
set_option synthInstance.maxHeartbeats 2000000
namespace Go.V
open Go.RowKit Go.Proofs
/-! GAPS in the numbers of arguments: a map of those that are used. -/
def mapE (ks : List Nat) : List (D × D) := ks.map fun k : Nat => (D.int .i64 (k : Int), D.bool true)
theorem findI_mapE (k : Nat) : ∀ ks : List Nat, findI .i64 (k : Int) (mapE ks) = some (if k ∈ ks then some (.bool true) else none)
  | [] => rfl
  | a :: ks => by
    have ih := findI_mapE k ks
    unfold mapE at ih ⊢
    simp only [List.map_cons, findI, decide_true, cond_true]
    by_cases h : k = a
    · subst h; simp
    rw [show ((k : Int) == (a : Int)) = false by simp; omega, cond_false, ih]
    simp [h]
theorem mapE_len (ks : List Nat) : (mapE ks).length = ks.length := by unfold mapE; rw [List.length_map]
theorem mapE_snoc (ks : List Nat) (k : Nat) : mapE ks ++ [(D.int .i64 (k : Int), D.bool true)] = mapE (ks ++ [k]) := by unfold mapE; rw [List.map_append]; rfl
theorem nodup_len {α : Type} [DecidableEq α] : ∀ (l m : List α), l.Nodup → (∀ x ∈ l, x ∈ m) → l.length ≤ m.length
  | [], m, _, _ => Nat.zero_le _
  | a :: l, m, hn, hs => by
    rw [List.nodup_cons] at hn
    have ha := hs a (by simp)
    have := nodup_len l (m.erase a) hn.2 (fun x hx => (List.mem_erase_of_ne (fun e => hn.1 (by rw [← e]; exact hx))).2 (hs x (List.mem_cons_of_mem _ hx)))
    rw [List.length_erase_of_mem ha] at this
    have := List.length_pos_of_mem ha
    rw [List.length_cons]; omega
theorem sall_iff {l : List Pc} {m : Nat} : ∀ k, sall l m k = true ↔ ∀ j, k ≤ j → j ≤ m → sused l (j : Int) = true := by
  intro k
  rw [sall]
  split
  · rename_i h
    rw [Bool.and_eq_true, sall_iff (k + 1)]
    constructor
    · rintro ⟨a, b⟩ j h1 h2
      rcases Nat.eq_or_lt_of_le h1 with rfl | h3
      · exact a
      exact b j h3 h2
    exact fun h4 => ⟨h4 k (Nat.le_refl _) h, fun j h1 h2 => h4 j (by omega) h2⟩
  exact ⟨fun _ j h1 h2 => by omega, fun _ => rfl⟩
termination_by k => m + 1 - k
theorem gaps_len {l : List Pc} {m : Nat} {ks : List Nat} (hn : ks.Nodup) (hk : ∀ k, k ∈ ks ↔ 1 ≤ k ∧ sused l (k : Int) = true) (hm : ∀ k ∈ ks, k ≤ m) : decide (ks.length < m) = !sall l m 1 := by
  cases h : sall l m 1
  · apply decide_eq_true
    apply Classical.byContradiction
    intro hlen
    have : sall l m 1 = true := (sall_iff 1).2 fun j h1 h2 => Classical.byContradiction fun hu => by
      have hj : j ∉ ks := fun h => hu ((hk j).1 h).2
      have := nodup_len (j :: ks) (List.range' 1 m) (List.nodup_cons.2 ⟨hj, hn⟩) (fun x hx => by
        rw [List.mem_range'_1]
        rcases List.mem_cons.1 hx with rfl | hx
        · omega
        have := hm x hx
        have := ((hk x).1 hx).1
        omega)
      rw [List.length_cons, List.length_range'] at this
      omega
    rw [h] at this; cases this
  apply decide_eq_false
  intro hlen
  have := nodup_len (List.range' 1 m) ks List.nodup_range' (fun x hx => by
    rw [List.mem_range'_1] at hx
    exact (hk x).2 ⟨hx.1, (sall_iff 1).1 h x hx.1 (by omega)⟩)
  rw [List.length_range'] at this
  omega
theorem sused_take {l : List Pc} {i : Nat} (g : i < l.length) (k : Int) : sused (l.take (i + 1)) k = (sused (l.take i) k || decide ((l.getD i pcZ).arg = k)) := by
  unfold sused
  rw [List.take_add_one, List.getElem?_eq_getElem g, List.any_append, List.getD_eq_getElem?_getD, List.getElem?_eq_getElem g]
  simp
theorem ZeJ (l : List Pc) (hl : l.length ≤ 1099511627776) (ha : ∀ p ∈ l, p.arg ≤ 64) : PC C Zev [slP l] (fun o => o = .ret (.tup [.bool (!(sgr l).2), .int .i64 (sgr l).1])) := by
  obtain ⟨M, hM⟩ : ∃ M, M = smost l 0 := ⟨_, rfl⟩
  obtain ⟨R, hR⟩ : ∃ R, R = sall l M.toNat 1 := ⟨_, rfl⟩
  unfold sgr
  rw [← hM, ← hR]
  refine PC.rn Zcx Zd8 Zd9 (rs := [.tmp 2, .tmp 3]) (by rw [Zea]) ?_
  refine ARun.seq (ARun.region ?_); refine zza ?_; refine zza ?_; refine AOps.nil (ARun.seq (ARun.region ?_)); refine zza ?_; refine AOps.nil (ARun.seq (ARun.region ?_))
  refine y_new rfl (Zf0 (kt := t_int) (et := t_bool) (by kernel_rfl) (.inl rfl)) ?_
  refine zza ?_; refine AOps.nil (ARun.seq (ARun.seq (ARun.region ?_))); refine zzm ?_; refine zzN ?_; refine zzm ?_; refine AOps.nil (ARun.block ?_)
  refine ARun.loopI (S := Nat × Nat × List Nat) (fun σ : Nat × Nat × List Nat => [(7, .any), (12, .any), (13, .any), (14, .any), (15, .any), (16, .any), (17, .any), (18, .any), (19, .any), (20, .any), (21, .any), (22, .any), (23, .any), (24, .any), (25, .any), (11, .int .i64 (σ.1 : Int)), (4, .int .i64 (σ.2.1 : Int))]) (fun σ : Nat × Nat × List Nat => [mapO (mapE σ.2.2)]) (fun σ : Nat × Nat × List Nat => σ.1 ≤ l.length ∧ σ.2.1 ≤ 64 ∧ M = smost (l.drop σ.1) (σ.2.1 : Int) ∧ σ.2.2.Nodup ∧ (∀ k, k ∈ σ.2.2 ↔ 1 ≤ k ∧ sused (l.take σ.1) (k : Int) = true) ∧ ∀ k ∈ σ.2.2, k ≤ σ.2.1) (fun σ : Nat × Nat × List Nat => l.length - σ.1) ((0, 0, [])) ?_ ?_ ?_ ?_
  · exact ⟨Nat.zero_le _, Nat.zero_le _, hM, List.nodup_nil, fun k => ⟨fun h => by (cases h), fun h => by (cases h.2)⟩, fun k h => by cases h⟩
  · (repeat' first | exact envLe_nil | apply envLe_any | apply envLe_same)
  · rfl
  rintro ⟨i, m, ks⟩ hinv ih
  dsimp only at hinv ih ⊢
  obtain ⟨i1, i2, i3, i4, i5, i6⟩ := hinv
  refine ARun.seq (ARun.region ?_); refine zzi ?_; refine AOps.nil (ARun.seq ?_)
  refine ARun.ite rfl (fun g => ?_) (fun g => ?_)
  · skip
    have g : i < l.length := by omega
    rw [drop_getD l i pcZ g, smost] at i3
    have hd := pcs_drop l i g
    have hne := pcs_ne g
    have hp : (l.getD i pcZ).arg ≤ 64 := by rw [List.getD_eq_getElem?_getD, List.getElem?_eq_getElem g]; exact ha _ (List.getElem_mem g)
    have hst := sused_take g
    generalize l.getD i pcZ = p at *
    refine ARun.skip (ARun.seq (ARun.block (ARun.seq (ARun.region ?_))))
    refine y_op rfl (Zav rfl rfl rfl rfl (by omega) (by omega) hne hd) ?_
    refine zzL ?_
    refine ZbI rfl rfl rfl rfl rfl rfl rfl rfl rfl rfl rfl ?_
    refine AOps.nil (ARun.seq (ARun.region ?_)); refine zzf ?_; refine zzl ?_; refine zzi ?_; refine AOps.nil ?_
    refine ARun.ite rfl (fun a => ?_) (fun a => ?_)
    · skip
      obtain ⟨k, hk⟩ : ∃ k : Nat, p.arg = (k : Int) := ⟨p.arg.toNat, by omega⟩
      have hk1 : 1 ≤ k := by omega
      have hf := findI_mapE k ks
      by_cases hmem : k ∈ ks
      · rw [if_pos hmem] at hf
        refine ARun.seq (ARun.region ?_); refine zzm ?_; refine zzf ?_; refine zzl ?_
        refine y_new rfl (ZfP (n := (k : Int)) (kt := t_int) (et := t_bool) (.inr rfl) (by kernel_rfl) (by kernel_rfl) rfl (by rw [← hk]; rfl) rfl rfl hf) ?_
        refine AOps.nil (ARun.region ?_); refine zzm ?_; refine zzf ?_; refine zzl ?_
        refine y_op rfl (q_maxR rfl rfl (show max (m : Int) p.arg = ((max m k : Nat) : Int) by omega)) ?_
        refine zza ?_; refine AOps.nil (ARun.inBlock (ARun.region ?_))
        refine y_op rfl (q_add rfl rfl (nadd1_i64 (by omega))) ?_
        refine zzm ?_; refine AOps.nil ?_
        refine ARun.again (ih ((i + 1, max m k, ks)) ?_ ?_) ?_ ?_
        · exact ⟨g, by dsimp only; omega, by dsimp only; rw [i3]; congr 1; omega, i4, fun j => by (dsimp only; rw [hst, Bool.or_eq_true, decide_eq_true_eq, i5 j]; exact ⟨fun h => ⟨h.1, .inl h.2⟩, fun h => ⟨h.1, h.2.elim id (fun e => by (obtain rfl : k = j := by omega); exact ((i5 k).1 hmem).2)⟩⟩), fun j hj => by (dsimp only; have := i6 j hj; omega)⟩
        · (dsimp only; omega)
        · (repeat' first | exact envLe_nil | apply envLe_any | apply envLe_same)
        rfl
      rw [if_neg hmem] at hf
      refine ARun.seq (ARun.region ?_); refine zzm ?_; refine zzf ?_; refine zzl ?_
      refine y_new rfl (Zfq (n := (k : Int)) (kt := t_int) (et := t_bool) (.inr rfl) (by kernel_rfl) (by kernel_rfl) rfl (by rw [← hk]; rfl) rfl rfl hf) ?_
      refine AOps.nil (ARun.region ?_); refine zzm ?_; refine zzf ?_; refine zzl ?_
      refine y_op rfl (q_maxR rfl rfl (show max (m : Int) p.arg = ((max m k : Nat) : Int) by omega)) ?_
      refine zza ?_; refine AOps.nil (ARun.inBlock (ARun.region ?_))
      refine y_op rfl (q_add rfl rfl (nadd1_i64 (by omega))) ?_
      refine zzm ?_; refine AOps.nil ?_
      rw [mapE_snoc]
      refine ARun.again (ih ((i + 1, max m k, ks ++ [k])) ?_ ?_) ?_ ?_
      · exact ⟨g, by dsimp only; omega, by dsimp only; rw [i3]; congr 1; omega, by (dsimp only; rw [List.nodup_append]; exact ⟨i4, by simp, fun x hx y hy e => by (rw [List.mem_singleton] at hy; subst hy; subst e; exact hmem hx)⟩), fun j => by (dsimp only; rw [hst, Bool.or_eq_true, decide_eq_true_eq, List.mem_append, List.mem_singleton, i5 j]; exact ⟨fun h => h.elim (fun h => ⟨h.1, .inl h.2⟩) (fun e => by (subst e; exact ⟨hk1, .inr hk⟩)), fun h => h.2.elim (fun h2 => .inl ⟨h.1, h2⟩) (fun e => .inr (by omega))⟩), fun j hj => by (dsimp only at hj ⊢; rw [List.mem_append, List.mem_singleton] at hj; rcases hj with hj | hj; (have := i6 j hj; omega); omega)⟩
      · (dsimp only; omega)
      · (repeat' first | exact envLe_nil | apply envLe_any | apply envLe_same)
      rfl
    refine ARun.skip (ARun.inBlock (ARun.region ?_))
    refine y_op rfl (q_add rfl rfl (nadd1_i64 (by omega))) ?_
    refine zzm ?_; refine AOps.nil ?_
    refine ARun.again (ih ((i + 1, m, ks)) ?_ ?_) ?_ ?_
    · exact ⟨g, i2, by dsimp only; rw [i3]; congr 1; omega, i4, fun j => by (dsimp only; rw [hst, Bool.or_eq_true, decide_eq_true_eq, i5 j]; exact ⟨fun h => ⟨h.1, .inl h.2⟩, fun h => ⟨h.1, h.2.elim id (fun e => by (exfalso; omega))⟩⟩), i6⟩
    · (dsimp only; omega)
    · (repeat' first | exact envLe_nil | apply envLe_any | apply envLe_same)
    rfl
  obtain rfl : i = l.length := by omega
  rw [List.take_length] at i5
  rw [List.drop_eq_nil_of_le (Nat.le_refl _)] at i3
  have i3 : M = (m : Int) := i3
  subst i3
  rw [Int.toNat_natCast] at hR
  have hg := gaps_len i4 i5 i6
  rw [← hR] at hg
  refine ARun.exit rfl ?_
  refine ARun.seq (ARun.region ?_); refine zzm ?_
  refine y_op rfl (OpQ.cast (d' := .int .i64 (ks.length : Int)) (Zgn (kt := t_int) (et := t_bool) (by kernel_rfl) rfl rfl) (by rw [mapE_len])) ?_
  refine zzm ?_
  refine y_op rfl (OpQ.cast (d' := .bool (!R)) (q_int rfl rfl rfl) (congrArg D.bool (by rw [← hg]; exact decide_eq_decide.2 (by omega)))) ?_
  refine zzm ?_; refine zza ?_; refine zza ?_; refine AOps.nil ?_
  refine ARun.ret ?_
  refine ⟨_, _, _, .tmp rfl (.tmp rfl .nil), .cons (.same _) (.cons (.same _) .nil), rfl, ?_⟩
  rfl
end Go.V
