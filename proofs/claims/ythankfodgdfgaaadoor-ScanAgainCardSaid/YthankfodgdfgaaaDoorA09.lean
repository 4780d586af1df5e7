/- A part of the proof: abstract values, rules for the steps of the program's form, and contracts of its functions, each proved; no condition. -/
import Derived.Test.YthankfodgdfgaaaDoorA08
set_option linter.unusedVariables false
set_option linter.unusedSimpArgs false
set_option linter.unnecessarySimpa false
set_option maxHeartbeats 4000000
set_option maxRecDepth 100000
set_option synthInstance.maxSize 100000
set_option synthInstance.maxHeartbeats 2000000
namespace Go.V
open Go.RowKit Go.Proofs
/-! strings.Builder: a struct that points to itself, and a row of bytes that grows. -/
abbrev bldO (p d : D) : Option AObj := some ⟨[p, d], ZaJ, 1, true, none⟩
theorem heap_set_self {H : Heap} {k : Nat} {x : Option AObj} (h : H[k]? = some x) : H.set k x = H := by
  apply List.ext_getElem?
  intro m
  rw [List.getElem?_set]
  split
  · rename_i e; subst e; rw [h, if_pos (List.getElem?_eq_some_iff.1 h).1]
  rfl
theorem heap_set_get {H : Heap} {k : Nat} {x y : Option AObj} (h : H[k]? = some x) : (H.set k y)[k]? = some y := by
  rw [List.getElem?_set, if_pos rfl, if_pos (List.getElem?_eq_some_iff.1 h).1]
theorem ptrB : C.P.underlying Zbv = some (.pointer (C.P.pointee Zbv)) := by kernel_rfl
theorem ZeK (H : Heap) (k : Nat) (d : D) (hk : H[k]? = some (bldO .nilptr d)) : HC C Zam H [.ptr k 0] (fun x H' => x = .ret (.tup []) ∧ H' = H.set k (bldO (.ptr k 0) d)) := by
  refine HC.run Zak ZaE rfl ZaF (rs := []) (by rw [ZaG]) (by simp only [List.length_cons, List.length_nil, Nat.reduceAdd, Nat.reduceSub, List.replicate_succ, List.replicate_zero, List.cons_append, List.nil_append]; exact rfl) ?_
  refine ARun.seq (ARun.region ?_); refine zzm ?_
  refine y_op rfl (q_nil rfl rfl) ?_
  refine y_op rfl (q_fldP rfl rfl rfl (by decide)) ?_
  refine y_op rfl (Zaa rfl rfl rfl hk rfl) ?_
  refine y_op rfl (Zgc ptrB rfl rfl) ?_
  refine AOps.nil ?_
  refine ARun.condT rfl ?_
  refine ARun.region ?_; refine zzm ?_; refine zzm ?_
  refine y_op rfl (ZfC (e := ZaJ) (by kernel_rfl) (by kernel_rfl) rfl (by decide) rfl hk rfl (Nat.le_of_ble_eq_true rfl)) ?_
  refine y_op rfl (ZfD (fn := Tryd.f88) Tryd.func88 (by kernel_rfl) (by kernel_rfl) (by kernel_rfl) (by kernel_rfl) rfl rfl) ?_
  refine y_op rfl (Ze4 (e := ZaJ) (by kernel_rfl) (by kernel_rfl) rfl (by kernel_rfl) (by decide) (by kernel_rfl) rfl hk rfl rfl (Nat.le_of_ble_eq_true rfl)) ?_
  refine y_op rfl (q_nil rfl rfl) ?_
  refine y_op rfl (q_fldP rfl rfl rfl (by decide)) ?_
  refine y_new rfl (Zac rfl rfl rfl rfl hk rfl (Nat.le_of_ble_eq_true rfl) rfl) ?_
  refine AOps.nil ?_
  refine ARun.nil ?_
  exact ⟨_, _, _, .nil, .nil, rfl, rfl⟩
theorem ZeL (H : Heap) (k : Nat) (d : D) (hk : H[k]? = some (bldO (.ptr k 0) d)) : HC C Zam H [.ptr k 0] (fun x H' => x = .ret (.tup []) ∧ H' = H.set k (bldO (.ptr k 0) d)) := by
  refine HC.run Zak ZaE rfl ZaF (rs := []) (by rw [ZaG]) (by simp only [List.length_cons, List.length_nil, Nat.reduceAdd, Nat.reduceSub, List.replicate_succ, List.replicate_zero, List.cons_append, List.nil_append]; exact rfl) ?_
  refine ARun.seq (ARun.region ?_); refine zzm ?_
  refine y_op rfl (q_nil rfl rfl) ?_
  refine y_op rfl (q_fldP rfl rfl rfl (by decide)) ?_
  refine y_op rfl (Zaa rfl rfl rfl hk rfl) ?_
  refine y_op rfl (Zgb ptrB rfl rfl) ?_
  refine AOps.nil ?_
  refine ARun.condF rfl ?_
  refine ARun.seq (ARun.region ?_); refine zzm ?_
  refine y_op rfl (q_nil rfl rfl) ?_
  refine y_op rfl (q_fldP rfl rfl rfl (by decide)) ?_
  refine y_op rfl (Zaa rfl rfl rfl hk rfl) ?_
  refine zzm ?_
  refine y_op rfl (Zfi (e := ZaJ) (by kernel_rfl) rfl rfl rfl) ?_
  refine AOps.nil ?_
  refine ARun.condF rfl ?_
  refine ARun.skip ?_
  refine ARun.nil ?_
  exact ⟨_, _, _, .nil, .nil, rfl, (heap_set_self hk).symm⟩
theorem Za0 (H : Heap) (k : Nat) (p d : D) (hp : p = .nilptr ∨ p = .ptr k 0) (hk : H[k]? = some (bldO p d)) : HC C Zam H [.ptr k 0] (fun x H' => x = .ret (.tup []) ∧ H' = H.set k (bldO (.ptr k 0) d)) := by
  rcases hp with rfl | rfl
  · exact ZeK H k d hk
  exact ZeL H k d hk
theorem strD_sby (s : ByteArray) : strD s = nts .u8 (sby s) := by
  unfold strD sby nts
  rw [List.map_map]; rfl
theorem u8T : TIC C Zbi (tkDesc C.P Zbi) 1 1 (.int .u8 0) := (ty_tic (C := C) (t := Zbi) rfl).1
theorem nts_app (L M : List Nat) : nts .u8 L ++ nts .u8 M = nts .u8 (L ++ M) := by unfold nts; rw [List.map_append]
abbrev rowU (L : List Nat) : Option AObj := some ⟨nts .u8 L, Zbi, 1, true, none⟩
def BldS (H : Heap) (k : Nat) (L : List Nat) : Prop := ∃ p d, (p = .nilptr ∨ p = .ptr k 0) ∧ H[k]? = some (bldO p d) ∧ ((L = [] ∧ d = .nilsl) ∨ (L ≠ [] ∧ ∃ id, id ≠ k ∧ d = .row id L.length ∧ H[id]? = some (rowU L)))
def KeepB (H H' : Heap) (k : Nat) : Prop := H.length ≤ H'.length ∧ ∀ (j : Nat) (o : AObj), H[j]? = some (some o) → j ≠ k → o.elem ≠ Zbi → H'[j]? = some (some o)
theorem KeepB.refl (H : Heap) (k : Nat) : KeepB H H k := ⟨Nat.le_refl _, fun _ _ h _ _ => h⟩
theorem KeepB.trans {H1 H2 H3 : Heap} {k : Nat} (h : KeepB H1 H2 k) (g : KeepB H2 H3 k) : KeepB H1 H3 k := ⟨Nat.le_trans h.1 g.1, fun j o a b c => g.2 j o (h.2 j o a b c) b c⟩
theorem BldS.new {H : Heap} {k : Nat} (h : H[k]? = some (bldO .nilptr .nilsl)) : BldS H k [] := ⟨_, _, .inl rfl, h, .inl ⟨rfl, rfl⟩⟩
theorem BldS.keep {H H' : Heap} {k : Nat} {L : List Nat} (h : BldS H k L) (hk : ∀ j x, H[j]? = some (some x) → x.elem = Zbi ∨ j = k → H'[j]? = some (some x)) : BldS H' k L := by
  obtain ⟨p, d, h1, h2, h3⟩ := h
  refine ⟨p, d, h1, hk k _ h2 (.inr rfl), h3.imp id fun ⟨a, id, b, c, e⟩ => ⟨a, id, b, c, hk id _ e (.inl rfl)⟩⟩
theorem okApp {A : Heap} {r : AObj} {i n : Nat} (h : i = A.length) : okCell (A ++ [some r]) (.row i n) = true := by
  subst h
  show (true && match (A ++ [some r])[A.length]? with | some (some _) => true | _ => false) = true
  rw [List.getElem?_append_right (Nat.le_refl _)]; simp
theorem nil_post {H : Heap} {k : Nat} {p : D} {M : List Nat} {n i : Nat} (hk : H[k]? = some (bldO p .nilsl)) (hM : M ≠ []) (hn : n = M.length) (hi : i = H.length) : 
    BldS ((H.set k (bldO (.ptr k 0) .nilsl) ++ [rowU M]).set k (bldO (.ptr k 0) (.row i n))) k M ∧ KeepB H ((H.set k (bldO (.ptr k 0) .nilsl) ++ [rowU M]).set k (bldO (.ptr k 0) (.row i n))) k := by
  subst hn; subst hi
  have hlt := (List.getElem?_eq_some_iff.1 hk).1
  refine ⟨⟨_, _, .inr rfl, ?_, .inr ⟨hM, H.length, by omega, rfl, ?_⟩⟩, by simp, fun j o h1 h2 h3 => ?_⟩
  · rw [List.getElem?_set, if_pos rfl, if_pos (by simp; omega)]
  · rw [List.getElem?_set_ne (by omega), List.getElem?_append_right (by simp)]; simp
  have := (List.getElem?_eq_some_iff.1 h1).1
  rw [List.getElem?_set_ne (fun e => h2 e.symm), List.getElem?_append_left (by simp; omega), List.getElem?_set_ne (fun e => h2 e.symm)]; exact h1
theorem row_post {H : Heap} {k id : Nat} {p : D} {L M : List Nat} {m n i : Nat} (hk : H[k]? = some (bldO p (.row id m))) (hid : H[id]? = some (rowU L)) (hne : id ≠ k) (hL : L ≠ []) (hn : n = (L ++ M).length) (hi : i = H.length) :
    BldS ((((H.set k (bldO (.ptr k 0) (.row id m))).set id none) ++ [rowU (L ++ M)]).set k (bldO (.ptr k 0) (.row i n))) k (L ++ M) ∧
      KeepB H ((((H.set k (bldO (.ptr k 0) (.row id m))).set id none) ++ [rowU (L ++ M)]).set k (bldO (.ptr k 0) (.row i n))) k := by
  subst hn; subst hi
  have hlt := (List.getElem?_eq_some_iff.1 hk).1
  refine ⟨⟨_, _, .inr rfl, ?_, .inr ⟨by simp [hL], H.length, by omega, rfl, ?_⟩⟩, by simp, fun j o h1 h2 h3 => ?_⟩
  · rw [List.getElem?_set, if_pos rfl, if_pos (by simp; omega)]
  · rw [List.getElem?_set_ne (by omega), List.getElem?_append_right (by simp)]; simp
  have := (List.getElem?_eq_some_iff.1 h1).1
  have hji : id ≠ j := by rintro rfl; rw [hid] at h1; injection h1 with h1; injection h1 with h1; subst h1; exact h3 rfl
  rw [List.getElem?_set_ne (fun e => h2 e.symm), List.getElem?_append_left (by simp; omega), List.getElem?_set_ne hji, List.getElem?_set_ne (fun e => h2 e.symm)]; exact h1
theorem Zed (H : Heap) (k : Nat) (p : D) (hp : p = .nilptr ∨ p = .ptr k 0) (hk : H[k]? = some (bldO p .nilsl)) (s : ByteArray) (h0 : 0 < s.size) (hl : 0 + s.size ≤ 1099511627776) : HC C Zai H [.ptr k 0, .str s] (fun x H' => x = .ret (.tup [.int .i64 (s.size : Int), .niliface]) ∧ BldS H' k (sby s) ∧ KeepB H H' k) := by
  refine HC.run Zag Zat rfl Zau (rs := [.tmp 4, .tmp 5]) (by rw [Zav]) (by simp only [List.length_cons, List.length_nil, Nat.reduceAdd, Nat.reduceSub, List.replicate_succ, List.replicate_zero, List.cons_append, List.nil_append]; exact rfl) ?_
  refine ARun.seq (ARun.region ?_); refine zza ?_; refine zza ?_; refine AOps.nil (ARun.seq (ARun.region ?_)); refine zzm ?_
  refine Zad rfl rfl rfl rfl (Za0 _ k p _ hp hk) ?_ (by rintro _ _ ⟨h, _⟩; cases h)
  rintro d1 H1 ⟨h1, h2⟩
  injection h1 with h1
  subst h1
  subst h2
  have hk1 := heap_set_get (y := bldO (.ptr k 0) .nilsl) hk
  refine AOps.nil (ARun.seq (ARun.region ?_)); refine zzm ?_; refine zzm ?_
  refine y_op rfl (q_nil rfl rfl) ?_
  refine y_op rfl (q_fldP rfl rfl rfl (by decide)) ?_
  refine y_op rfl (Zaa rfl rfl rfl hk1 rfl) ?_
  refine zzm ?_
  refine y_new rfl (ZeE (ty_slice rfl) (ty_str rfl) u8T rfl rfl h0 (by omega)) ?_
  rw [strD_sby]
  have hk2 : ((H.set k (bldO (.ptr k 0) .nilsl)) ++ [rowU (sby s)])[k]? = some (bldO (.ptr k 0) .nilsl) := by
    rw [List.getElem?_append_left (by simp; have := (List.getElem?_eq_some_iff.1 hk).1; omega)]; exact hk1
  refine y_op rfl (q_nil rfl rfl) ?_
  refine y_op rfl (q_fldP rfl rfl rfl (by decide)) ?_
  refine y_new rfl (Zac rfl rfl rfl (okApp (by simp)) hk2 rfl (Nat.le_of_ble_eq_true rfl) rfl) ?_
  refine AOps.nil (ARun.seq (ARun.region ?_)); refine zzm ?_
  refine y_op rfl (Zae rfl rfl) ?_
  refine zza ?_; refine zza ?_; refine AOps.nil ?_
  refine ARun.ret ?_
  exact ⟨_, _, _, .tmp rfl (.tmp rfl .nil), .cons (.same _) (.cons (.same _) .nil), rfl, nil_post hk (fun e => by have := sby_len s; rw [e] at this; simp at this; omega) (sby_len s).symm (by simp)⟩
theorem Zee (H : Heap) (k : Nat) (p : D) (hp : p = .nilptr ∨ p = .ptr k 0) (L : List Nat) (id : Nat) (hne : id ≠ k) (hL : L ≠ []) (hk : H[k]? = some (bldO p (.row id L.length))) (hid : H[id]? = some (rowU L)) (s : ByteArray) (h0 : 0 < s.size) (hl : L.length + s.size ≤ 1099511627776) : HC C Zai H [.ptr k 0, .str s] (fun x H' => x = .ret (.tup [.int .i64 (s.size : Int), .niliface]) ∧ BldS H' k ((L ++ sby s)) ∧ KeepB H H' k) := by
  refine HC.run Zag Zat rfl Zau (rs := [.tmp 4, .tmp 5]) (by rw [Zav]) (by simp only [List.length_cons, List.length_nil, Nat.reduceAdd, Nat.reduceSub, List.replicate_succ, List.replicate_zero, List.cons_append, List.nil_append]; exact rfl) ?_
  refine ARun.seq (ARun.region ?_); refine zza ?_; refine zza ?_; refine AOps.nil (ARun.seq (ARun.region ?_)); refine zzm ?_
  refine Zad rfl rfl rfl rfl (Za0 _ k p _ hp hk) ?_ (by rintro _ _ ⟨h, _⟩; cases h)
  rintro d1 H1 ⟨h1, h2⟩
  injection h1 with h1
  subst h1
  subst h2
  have hk1 := heap_set_get (y := bldO (.ptr k 0) (.row id L.length)) hk
  have hi1 : (H.set k (bldO (.ptr k 0) (.row id L.length)))[id]? = some (rowU L) := by rw [List.getElem?_set_ne (fun e => hne e.symm)]; exact hid
  refine AOps.nil (ARun.seq (ARun.region ?_)); refine zzm ?_; refine zzm ?_
  refine y_op rfl (q_nil rfl rfl) ?_
  refine y_op rfl (q_fldP rfl rfl rfl (by decide)) ?_
  refine y_op rfl (Zaa rfl rfl rfl hk1 rfl) ?_
  refine zzm ?_
  refine y_new rfl (Zfh (ty_slice rfl) (ty_str rfl) u8T rfl hi1 rfl rfl rfl rfl (by omega)) ?_
  rw [strD_sby]
  rw [nts_app]
  have hk2 : (((H.set k (bldO (.ptr k 0) (.row id L.length))).set id none) ++ [rowU (L ++ sby s)])[k]? = some (bldO (.ptr k 0) (.row id L.length)) := by
    rw [List.getElem?_append_left (by simp; have := (List.getElem?_eq_some_iff.1 hk).1; omega), List.getElem?_set_ne hne]; exact hk1
  refine y_op rfl (q_nil rfl rfl) ?_
  refine y_op rfl (q_fldP rfl rfl rfl (by decide)) ?_
  refine y_new rfl (Zac rfl rfl rfl (okApp (by simp)) hk2 rfl (Nat.le_of_ble_eq_true rfl) rfl) ?_
  refine AOps.nil (ARun.seq (ARun.region ?_)); refine zzm ?_
  refine y_op rfl (Zae rfl rfl) ?_
  refine zza ?_; refine zza ?_; refine AOps.nil ?_
  refine ARun.ret ?_
  exact ⟨_, _, _, .tmp rfl (.tmp rfl .nil), .cons (.same _) (.cons (.same _) .nil), rfl, row_post hk hid hne hL (by rw [List.length_append, sby_len]) (by simp)⟩
theorem ZbV (H : Heap) (k : Nat) (L : List Nat) (hb : BldS H k L) (s : ByteArray) (h0 : 0 < s.size) (hl : L.length + s.size ≤ 1099511627776) : HC C Zai H [.ptr k 0, .str s] (fun x H' => x = .ret (.tup [.int .i64 (s.size : Int), .niliface]) ∧ BldS H' k (L ++ sby s) ∧ KeepB H H' k) := by
  obtain ⟨p, d, h1, h2, ⟨rfl, rfl⟩ | ⟨h3, id, h4, rfl, h5⟩⟩ := hb
  · exact Zed H k p h1 h2 s h0 (by simpa using hl)
  exact Zee H k p h1 L id h4 h3 h2 h5 s h0 hl
theorem ZeM (H : Heap) (k : Nat) (p : D) (hp : p = .nilptr ∨ p = .ptr k 0) (hk : H[k]? = some (bldO p .nilsl)) (c : Nat) (hl : 0 + 1 ≤ 1099511627776) : HC C Zal H [.ptr k 0, .int .u8 (c : Int)] (fun x H' => x = .ret .niliface ∧ BldS H' k ([c]) ∧ KeepB H H' k) := by
  refine HC.run Zaj ZaB rfl ZaC (rs := [.tmp 4]) (by rw [ZaD]) (by simp only [List.length_cons, List.length_nil, Nat.reduceAdd, Nat.reduceSub, List.replicate_succ, List.replicate_zero, List.cons_append, List.nil_append]; exact rfl) ?_
  refine ARun.seq (ARun.region ?_); refine zza ?_; refine AOps.nil (ARun.seq (ARun.region ?_)); refine zzm ?_
  refine Zad rfl rfl rfl rfl (Za0 _ k p _ hp hk) ?_ (by rintro _ _ ⟨h, _⟩; cases h)
  rintro d1 H1 ⟨h1, h2⟩
  injection h1 with h1
  subst h1
  subst h2
  have hk1 := heap_set_get (y := bldO (.ptr k 0) .nilsl) hk
  refine AOps.nil (ARun.seq (ARun.region ?_)); refine zzm ?_; refine zzm ?_
  refine y_op rfl (q_nil rfl rfl) ?_
  refine y_op rfl (q_fldP rfl rfl rfl (by decide)) ?_
  refine y_op rfl (Zaa rfl rfl rfl hk1 rfl) ?_
  refine zzm ?_
  refine y_op rfl (Zef rfl rfl rfl rfl rfl rfl rfl rfl rfl rfl rfl (by decide) (by decide) rfl) ?_
  refine y_new rfl (ZcY (m := 1) (news := [D.int .u8 (c : Int)]) rfl rfl (by decide) rfl rfl rfl rfl rfl rfl rfl (by decide) (by show 1 * 1 ≤ _; omega) (by rw [maxLen_eq]; omega)) ?_
  have hk2 : ((H.set k (bldO (.ptr k 0) .nilsl)) ++ [rowU ([c])])[k]? = some (bldO (.ptr k 0) .nilsl) := by
    rw [List.getElem?_append_left (by simp; have := (List.getElem?_eq_some_iff.1 hk).1; omega)]; exact hk1
  refine y_op rfl (q_nil rfl rfl) ?_
  refine y_op rfl (q_fldP rfl rfl rfl (by decide)) ?_
  refine y_new rfl (Zac rfl rfl rfl (okApp (by simp)) hk2 rfl (Nat.le_of_ble_eq_true rfl) rfl) ?_
  refine AOps.nil (ARun.seq (ARun.region ?_)); refine zza ?_; refine AOps.nil ?_
  refine ARun.ret ?_
  exact ⟨_, _, _, .tmp rfl .nil, .cons (.same _) .nil, rfl, nil_post (M := [c]) hk (by simp) rfl (by simp)⟩
theorem ZeN (H : Heap) (k : Nat) (p : D) (hp : p = .nilptr ∨ p = .ptr k 0) (L : List Nat) (id : Nat) (hne : id ≠ k) (hL : L ≠ []) (hk : H[k]? = some (bldO p (.row id L.length))) (hid : H[id]? = some (rowU L)) (c : Nat) (hl : L.length + 1 ≤ 1099511627776) : HC C Zal H [.ptr k 0, .int .u8 (c : Int)] (fun x H' => x = .ret .niliface ∧ BldS H' k ((L ++ [c])) ∧ KeepB H H' k) := by
  refine HC.run Zaj ZaB rfl ZaC (rs := [.tmp 4]) (by rw [ZaD]) (by simp only [List.length_cons, List.length_nil, Nat.reduceAdd, Nat.reduceSub, List.replicate_succ, List.replicate_zero, List.cons_append, List.nil_append]; exact rfl) ?_
  refine ARun.seq (ARun.region ?_); refine zza ?_; refine AOps.nil (ARun.seq (ARun.region ?_)); refine zzm ?_
  refine Zad rfl rfl rfl rfl (Za0 _ k p _ hp hk) ?_ (by rintro _ _ ⟨h, _⟩; cases h)
  rintro d1 H1 ⟨h1, h2⟩
  injection h1 with h1
  subst h1
  subst h2
  have hk1 := heap_set_get (y := bldO (.ptr k 0) (.row id L.length)) hk
  have hi1 : (H.set k (bldO (.ptr k 0) (.row id L.length)))[id]? = some (rowU L) := by rw [List.getElem?_set_ne (fun e => hne e.symm)]; exact hid
  refine AOps.nil (ARun.seq (ARun.region ?_)); refine zzm ?_; refine zzm ?_
  refine y_op rfl (q_nil rfl rfl) ?_
  refine y_op rfl (q_fldP rfl rfl rfl (by decide)) ?_
  refine y_op rfl (Zaa rfl rfl rfl hk1 rfl) ?_
  refine zzm ?_
  refine y_op rfl (Zef rfl rfl rfl rfl rfl rfl rfl rfl rfl rfl rfl (by decide) (by decide) rfl) ?_
  refine y_new rfl (ZeU (m := 1) (news := [D.int .u8 (c : Int)]) rfl rfl (by decide) rfl rfl rfl rfl hi1 rfl rfl rfl rfl rfl rfl (by show (_ + 1) * 1 ≤ _; omega) (by rw [maxLen_eq]; omega) rfl) ?_
  rw [show [D.int .u8 (c : Int)] = nts .u8 [c] from rfl, nts_app]
  have hk2 : (((H.set k (bldO (.ptr k 0) (.row id L.length))).set id none) ++ [rowU (L ++ [c])])[k]? = some (bldO (.ptr k 0) (.row id L.length)) := by
    rw [List.getElem?_append_left (by simp; have := (List.getElem?_eq_some_iff.1 hk).1; omega), List.getElem?_set_ne hne]; exact hk1
  refine y_op rfl (q_nil rfl rfl) ?_
  refine y_op rfl (q_fldP rfl rfl rfl (by decide)) ?_
  refine y_new rfl (Zac rfl rfl rfl (okApp (by simp)) hk2 rfl (Nat.le_of_ble_eq_true rfl) rfl) ?_
  refine AOps.nil (ARun.seq (ARun.region ?_)); refine zza ?_; refine AOps.nil ?_
  refine ARun.ret ?_
  exact ⟨_, _, _, .tmp rfl .nil, .cons (.same _) .nil, rfl, row_post hk hid hne hL (by rw [List.length_append]; rfl) (by simp)⟩
theorem Za1 (H : Heap) (k : Nat) (L : List Nat) (hb : BldS H k L) (c : Nat) (hl : L.length + 1 ≤ 1099511627776) : HC C Zal H [.ptr k 0, .int .u8 (c : Int)] (fun x H' => x = .ret .niliface ∧ BldS H' k (L ++ [c]) ∧ KeepB H H' k) := by
  obtain ⟨p, d, h1, h2, ⟨rfl, rfl⟩ | ⟨h3, id, h4, rfl, h5⟩⟩ := hb
  · exact ZeM H k p h1 h2 c (by simpa using hl)
  exact ZeN H k p h1 L id h4 h3 h2 h5 c hl
theorem ZfG (H : Heap) (k : Nat) (p : D) (hp : p = .nilptr ∨ p = .ptr k 0) (hk : H[k]? = some (bldO p .nilsl)) (M : List Nat) (h0 : 0 < M.length) (hl : 0 + M.length ≤ 1099511627776) : HC C Zaw H [.ptr k 0, .sl M.length (nts .u8 M)] (fun x H' => x = .ret (.tup [.int .i64 (M.length : Int), .niliface]) ∧ BldS H' k (M) ∧ KeepB H H' k) := by
  refine HC.run Zas ZaU rfl ZaV (rs := [.tmp 4, .tmp 5]) (by rw [ZaW]) (by simp only [List.length_cons, List.length_nil, Nat.reduceAdd, Nat.reduceSub, List.replicate_succ, List.replicate_zero, List.cons_append, List.nil_append]; exact rfl) ?_
  refine ARun.seq (ARun.region ?_); refine zza ?_; refine zza ?_; refine AOps.nil (ARun.seq (ARun.region ?_)); refine zzm ?_
  refine Zad rfl rfl rfl rfl (Za0 _ k p _ hp hk) ?_ (by rintro _ _ ⟨h, _⟩; cases h)
  rintro d1 H1 ⟨h1, h2⟩
  injection h1 with h1
  subst h1
  subst h2
  have hk1 := heap_set_get (y := bldO (.ptr k 0) .nilsl) hk
  refine AOps.nil (ARun.seq (ARun.region ?_)); refine zzm ?_; refine zzm ?_
  refine y_op rfl (q_nil rfl rfl) ?_
  refine y_op rfl (q_fldP rfl rfl rfl (by decide)) ?_
  refine y_op rfl (Zaa rfl rfl rfl hk1 rfl) ?_
  refine zzm ?_
  refine y_new rfl (ZcY (m := M.length) (news := nts .u8 M) rfl rfl (by decide) rfl rfl rfl rfl rfl rfl (by rw [nts_length, Nat.mul_one]) h0 (by show M.length * 1 ≤ _; omega) (by rw [maxLen_eq]; omega)) ?_
  have hk2 : ((H.set k (bldO (.ptr k 0) .nilsl)) ++ [rowU (M)])[k]? = some (bldO (.ptr k 0) .nilsl) := by
    rw [List.getElem?_append_left (by simp; have := (List.getElem?_eq_some_iff.1 hk).1; omega)]; exact hk1
  refine y_op rfl (q_nil rfl rfl) ?_
  refine y_op rfl (q_fldP rfl rfl rfl (by decide)) ?_
  refine y_new rfl (Zac rfl rfl rfl (okApp (by simp)) hk2 rfl (Nat.le_of_ble_eq_true rfl) rfl) ?_
  refine AOps.nil (ARun.seq (ARun.region ?_)); refine zzm ?_; refine zzN ?_; refine zza ?_; refine zza ?_; refine AOps.nil ?_
  refine ARun.ret ?_
  exact ⟨_, _, _, .tmp rfl (.tmp rfl .nil), .cons (.same _) (.cons (.same _) .nil), rfl, nil_post hk (fun e => by rw [e] at h0; exact absurd h0 (by decide)) rfl (by simp)⟩
theorem ZfH (H : Heap) (k : Nat) (p : D) (hp : p = .nilptr ∨ p = .ptr k 0) (L : List Nat) (id : Nat) (hne : id ≠ k) (hL : L ≠ []) (hk : H[k]? = some (bldO p (.row id L.length))) (hid : H[id]? = some (rowU L)) (M : List Nat) (h0 : 0 < M.length) (hl : L.length + M.length ≤ 1099511627776) : HC C Zaw H [.ptr k 0, .sl M.length (nts .u8 M)] (fun x H' => x = .ret (.tup [.int .i64 (M.length : Int), .niliface]) ∧ BldS H' k ((L ++ M)) ∧ KeepB H H' k) := by
  refine HC.run Zas ZaU rfl ZaV (rs := [.tmp 4, .tmp 5]) (by rw [ZaW]) (by simp only [List.length_cons, List.length_nil, Nat.reduceAdd, Nat.reduceSub, List.replicate_succ, List.replicate_zero, List.cons_append, List.nil_append]; exact rfl) ?_
  refine ARun.seq (ARun.region ?_); refine zza ?_; refine zza ?_; refine AOps.nil (ARun.seq (ARun.region ?_)); refine zzm ?_
  refine Zad rfl rfl rfl rfl (Za0 _ k p _ hp hk) ?_ (by rintro _ _ ⟨h, _⟩; cases h)
  rintro d1 H1 ⟨h1, h2⟩
  injection h1 with h1
  subst h1
  subst h2
  have hk1 := heap_set_get (y := bldO (.ptr k 0) (.row id L.length)) hk
  have hi1 : (H.set k (bldO (.ptr k 0) (.row id L.length)))[id]? = some (rowU L) := by rw [List.getElem?_set_ne (fun e => hne e.symm)]; exact hid
  refine AOps.nil (ARun.seq (ARun.region ?_)); refine zzm ?_; refine zzm ?_
  refine y_op rfl (q_nil rfl rfl) ?_
  refine y_op rfl (q_fldP rfl rfl rfl (by decide)) ?_
  refine y_op rfl (Zaa rfl rfl rfl hk1 rfl) ?_
  refine zzm ?_
  refine y_new rfl (ZeU (m := M.length) (news := nts .u8 M) rfl rfl (by decide) rfl rfl rfl rfl hi1 rfl rfl rfl rfl rfl (by rw [nts_length, Nat.mul_one]) (by show (_ + M.length) * 1 ≤ _; omega) (by rw [maxLen_eq]; omega) rfl) ?_
  rw [nts_app]
  have hk2 : (((H.set k (bldO (.ptr k 0) (.row id L.length))).set id none) ++ [rowU (L ++ M)])[k]? = some (bldO (.ptr k 0) (.row id L.length)) := by
    rw [List.getElem?_append_left (by simp; have := (List.getElem?_eq_some_iff.1 hk).1; omega), List.getElem?_set_ne hne]; exact hk1
  refine y_op rfl (q_nil rfl rfl) ?_
  refine y_op rfl (q_fldP rfl rfl rfl (by decide)) ?_
  refine y_new rfl (Zac rfl rfl rfl (okApp (by simp)) hk2 rfl (Nat.le_of_ble_eq_true rfl) rfl) ?_
  refine AOps.nil (ARun.seq (ARun.region ?_)); refine zzm ?_; refine zzN ?_; refine zza ?_; refine zza ?_; refine AOps.nil ?_
  refine ARun.ret ?_
  exact ⟨_, _, _, .tmp rfl (.tmp rfl .nil), .cons (.same _) (.cons (.same _) .nil), rfl, row_post hk hid hne hL (by rw [List.length_append]) (by simp)⟩
theorem Zge (H : Heap) (k : Nat) (L : List Nat) (hb : BldS H k L) (M : List Nat) (h0 : 0 < M.length) (hl : L.length + M.length ≤ 1099511627776) : HC C Zaw H [.ptr k 0, .sl M.length (nts .u8 M)] (fun x H' => x = .ret (.tup [.int .i64 (M.length : Int), .niliface]) ∧ BldS H' k (L ++ M) ∧ KeepB H H' k) := by
  obtain ⟨p, d, h1, h2, ⟨rfl, rfl⟩ | ⟨h3, id, h4, rfl, h5⟩⟩ := hb
  · exact ZfG H k p h1 h2 M h0 (by simpa using hl)
  exact ZfH H k p h1 L id h4 h3 h2 h5 M h0 hl
theorem Zgf (H : Heap) (k : Nat) (p : D) (hk : H[k]? = some (bldO p .nilsl)) : HC C ZaH H [.ptr k 0] (fun x H' => x = .ret (.int .i64 0) ∧ H' = H) := by
  refine HC.run Zaz Za8 rfl Za9 (rs := [.tmp 2]) (by rw [Zba]) (by simp only [List.length_cons, List.length_nil, Nat.reduceAdd, Nat.reduceSub, List.replicate_succ, List.replicate_zero, List.cons_append, List.nil_append]; exact rfl) ?_
  refine ARun.seq (ARun.region ?_); refine zza ?_; refine AOps.nil (ARun.seq (ARun.region ?_)); refine zzm ?_
  refine y_op rfl (q_nil rfl rfl) ?_
  refine y_op rfl (q_fldP rfl rfl rfl (by decide)) ?_
  refine y_op rfl (Zaa rfl rfl rfl hk rfl) ?_
  refine y_op rfl (ZeS rfl rfl) ?_
  refine zza ?_; refine AOps.nil ?_
  refine ARun.ret ?_
  exact ⟨_, _, _, .tmp rfl .nil, .cons (.same _) .nil, rfl, rfl⟩
theorem Zgg (H : Heap) (k id n : Nat) (p : D) (o : AObj) (hk : H[k]? = some (bldO p (.row id n))) (hid : H[id]? = some (some o)) : HC C ZaH H [.ptr k 0] (fun x H' => x = .ret (.int .i64 (n : Int)) ∧ H' = H) := by
  refine HC.run Zaz Za8 rfl Za9 (rs := [.tmp 2]) (by rw [Zba]) (by simp only [List.length_cons, List.length_nil, Nat.reduceAdd, Nat.reduceSub, List.replicate_succ, List.replicate_zero, List.cons_append, List.nil_append]; exact rfl) ?_
  refine ARun.seq (ARun.region ?_); refine zza ?_; refine AOps.nil (ARun.seq (ARun.region ?_)); refine zzm ?_
  refine y_op rfl (q_nil rfl rfl) ?_
  refine y_op rfl (q_fldP rfl rfl rfl (by decide)) ?_
  refine y_op rfl (Zaa rfl rfl rfl hk rfl) ?_
  refine y_op rfl (ZeT rfl hid rfl) ?_
  refine zza ?_; refine AOps.nil ?_
  refine ARun.ret ?_
  exact ⟨_, _, _, .tmp rfl .nil, .cons (.same _) .nil, rfl, rfl⟩
theorem hc_Len (H : Heap) (k : Nat) (L : List Nat) (hb : BldS H k L) : HC C ZaH H [.ptr k 0] (fun x H' => x = .ret (.int .i64 (L.length : Int)) ∧ H' = H) := by
  obtain ⟨p, d, h1, h2, ⟨rfl, rfl⟩ | ⟨h3, id, h4, rfl, h5⟩⟩ := hb
  · exact Zgf H k p h2
  exact Zgg H k id _ p _ h2 h5
theorem kill_keep {H : Heap} {k id : Nat} {L : List Nat} (hid : H[id]? = some (rowU L)) : KeepB H (H.set id none) k := ⟨by simp, fun j o h1 h2 h3 => by
  have hji : id ≠ j := by rintro rfl; rw [hid] at h1; injection h1 with h1; injection h1 with h1; subst h1; exact h3 rfl
  rw [List.getElem?_set_ne hji]; exact h1⟩
theorem Zfq (H : Heap) (k : Nat) (p : D) (hk : H[k]? = some (bldO p .nilsl)) : HC C Zar H [.ptr k 0] (fun x H' => x = .ret (.str (bytesOf [])) ∧ KeepB H H' k) := by
  refine HC.run Zap ZaN rfl ZaO (rs := [.tmp 2]) (by rw [ZaP]) (by simp only [List.length_cons, List.length_nil, Nat.reduceAdd, Nat.reduceSub, List.replicate_succ, List.replicate_zero, List.cons_append, List.nil_append]; exact rfl) ?_
  refine ARun.seq (ARun.region ?_); refine zza ?_; refine AOps.nil (ARun.seq ?_)
  refine ARun.drawnP 10 (fun _ => False) mixC rfl rfl (by kernel_rfl) (fun _ _ h => h.elim) ?_
  refine .op rfl (q_move rfl) ?_
  refine .op rfl (q_nil rfl rfl) ?_
  refine .op rfl (q_fldP rfl rfl rfl (by decide)) ?_
  refine .op rfl (Zaa rfl rfl rfl hk rfl) ?_
  refine .op rfl (ZeF rfl) ?_
  refine .op rfl (q_move rfl) ?_
  refine .op rfl (q_nil rfl rfl) ?_
  refine .op rfl (q_fldP rfl rfl rfl (by decide)) ?_
  refine .op rfl (Zaa rfl rfl rfl hk rfl) ?_
  refine .op rfl (ZeS rfl rfl) ?_
  refine .nil (fun hG => ?_)
  refine y_op rfl (ZeG rfl rfl) ?_
  refine zza ?_; refine AOps.nil ?_
  refine ARun.ret ?_
  exact ⟨_, _, _, .tmp rfl .nil, .cons (.same _) .nil, rfl, KeepB.refl _ _⟩
theorem strD_bytes {L : List Nat} (h : ∀ c ∈ L, c < 256) : nts .u8 L = strD (bytesOf L) := by rw [strD_sby, sby_bytesOf h]
theorem Zfr (H : Heap) (k id : Nat) (p : D) (L : List Nat) (hk : H[k]? = some (bldO p (.row id L.length))) (hid : H[id]? = some (rowU L)) (hL : ∀ x ∈ L, x < 256) (h0 : L ≠ []) (hl : L.length ≤ 1099511627776) : HC C Zar H [.ptr k 0] (fun x H' => x = .ret (.str (bytesOf L)) ∧ KeepB H H' k) := by
  have hn : L.length ≠ 0 := fun e => h0 (List.eq_nil_of_length_eq_zero e)
  refine HC.run Zap ZaN rfl ZaO (rs := [.tmp 2]) (by rw [ZaP]) (by simp only [List.length_cons, List.length_nil, Nat.reduceAdd, Nat.reduceSub, List.replicate_succ, List.replicate_zero, List.cons_append, List.nil_append]; exact rfl) ?_
  refine ARun.seq (ARun.region ?_); refine zza ?_; refine AOps.nil (ARun.seq ?_)
  refine ARun.drawnP 10 (fun _ => False) mixC rfl rfl (by kernel_rfl) (fun _ _ h => h.elim) ?_
  refine .op rfl (q_move rfl) ?_
  refine .op rfl (q_nil rfl rfl) ?_
  refine .op rfl (q_fldP rfl rfl rfl (by decide)) ?_
  refine .op rfl (Zaa rfl rfl rfl hk rfl) ?_
  refine .op rfl (Zfj rfl hid hn) ?_
  refine .op rfl (q_move rfl) ?_
  refine .op rfl (q_nil rfl rfl) ?_
  refine .op rfl (q_fldP rfl rfl rfl (by decide)) ?_
  refine .op rfl (Zaa rfl rfl rfl hk rfl) ?_
  refine .op rfl (ZeT rfl hid rfl) ?_
  refine .nil (fun hG => ?_)
  refine y_new rfl (Zfk (e := Zbi) (by kernel_rfl) (by kernel_rfl) rfl rfl hid rfl rfl rfl (strD_bytes hL) (bytesOf_size _) hn hl) ?_
  refine zza ?_; refine AOps.nil ?_
  refine ARun.ret ?_
  exact ⟨_, _, _, .tmp rfl .nil, .cons (.same _) .nil, rfl, kill_keep hid⟩
theorem Ze8 (H : Heap) (k : Nat) (L : List Nat) (hb : BldS H k L) (hL : ∀ x ∈ L, x < 256) (hl : L.length ≤ 1099511627776) : HC C Zar H [.ptr k 0] (fun x H' => x = .ret (.str (bytesOf L)) ∧ KeepB H H' k) := by
  obtain ⟨p, d, h1, h2, ⟨rfl, rfl⟩ | ⟨h3, id, h4, rfl, h5⟩⟩ := hb
  · exact Zfq H k p h2
  exact Zfr H k id p L h2 h5 hL h3 hl
end Go.V
set_option maxHeartbeats 8000000
set_option maxRecDepth 100000
set_option synthInstance.maxSize 100000
set_option synthInstance.maxHeartbeats 2000000
namespace Go.V
open Go.RowKit Go.Proofs
/-! The RUNS of a set, yielded. -/
def rinC (S : Nat → Bool) (c : Nat) : Bool := decide (c < 256) && rin S c
theorem rin_alt (S : Nat → Bool) (c : Nat) : rinC S c = ((((decide (c < 256) && S c) && !decide (c = 93)) && !decide (c = 94)) && !decide (c = 45)) := by
  unfold rinC rin
  cases decide (c < 256) <;> cases S c <;> cases decide (c = 93) <;> cases decide (c = 94) <;> cases decide (c = 45) <;> rfl
theorem ZeQ (S : Nat → Bool) (c : Nat) (hc : c ≤ 256) : PC C Zbg [.int .i64 (c : Int), .sptr (swL S)] (fun o => o = .ret (.bool (rinC S c))) := by
  rw [rin_alt]
  refine PC.rn ZbO Zdn Zdo (rs := [.tmp 3]) (by rw [Zdp]) ?_
  refine ARun.seq (ARun.region ?_); refine zza ?_; refine AOps.nil (ARun.seq (ARun.region ?_)); refine zzm ?_
  refine y_op rfl (OpQ.cast (d' := .bool (decide (c < 256))) (q_int rfl rfl rfl) (congrArg D.bool (decide_eq_decide.2 (by omega)))) ?_
  refine zzm ?_
  apply AOps.andJ 6 (fun sj1 => [(6, .any), (7, .any), (8, .any), (9, .any), (10, .any), (11, .bool sj1)]) rfl
  · intro hj1 run1
    try replace hj1 := of_decide_eq_true hj1
    refine zzL ?_; refine zzm ?_
    refine y_op rfl (q_conv rfl rfl rfl (show _ = (c : Int) by rw [IntKind.wrap_u8]; omega)) ?_
    refine zzc rfl rfl (ZbQ S c (by omega)) ?_
    refine zzp ?_
    exact AOps.ag run1
  · intro hj1 run1
    try replace hj1 := of_decide_eq_false hj1
    refine zzk ?_; refine zzk ?_; refine zzk ?_; refine zzk ?_; refine zzp ?_
    exact AOps.ag run1
  refine zzm ?_
  apply AOps.andJ 12 (fun sj2 => [(12, .any), (13, .any), (14, .any), (15, .bool sj2)]) rfl
  · intro hj2 run2
    try replace hj2 := of_decide_eq_true hj2
    refine zzm ?_
    refine y_op rfl (OpQ.cast (d' := .bool (!decide (c = 93))) (q_int rfl rfl rfl) (congrArg D.bool (by rw [Bool.eq_iff_iff]; simp; omega))) ?_
    refine zzp ?_
    exact AOps.ag run2
  · intro hj2 run2
    try replace hj2 := of_decide_eq_false hj2
    refine zzk ?_; refine zzk ?_; refine zzp ?_
    exact AOps.ag run2
  refine zzm ?_
  apply AOps.andJ 16 (fun sj3 => [(16, .any), (17, .any), (18, .any), (19, .bool sj3)]) rfl
  · intro hj3 run3
    try replace hj3 := of_decide_eq_true hj3
    refine zzm ?_
    refine y_op rfl (OpQ.cast (d' := .bool (!decide (c = 94))) (q_int rfl rfl rfl) (congrArg D.bool (by rw [Bool.eq_iff_iff]; simp; omega))) ?_
    refine zzp ?_
    exact AOps.ag run3
  · intro hj3 run3
    try replace hj3 := of_decide_eq_false hj3
    refine zzk ?_; refine zzk ?_; refine zzp ?_
    exact AOps.ag run3
  refine zzm ?_
  apply AOps.andJ 20 (fun sj4 => [(20, .any), (21, .any), (22, .any), (23, .bool sj4)]) rfl
  · intro hj4 run4
    try replace hj4 := of_decide_eq_true hj4
    refine zzm ?_
    refine y_op rfl (OpQ.cast (d' := .bool (!decide (c = 45))) (q_int rfl rfl rfl) (congrArg D.bool (by rw [Bool.eq_iff_iff]; simp; omega))) ?_
    refine zzp ?_
    exact AOps.ag run4
  · intro hj4 run4
    try replace hj4 := of_decide_eq_false hj4
    refine zzk ?_; refine zzk ?_; refine zzp ?_
    exact AOps.ag run4
  refine zza ?_; refine AOps.nil ?_
  refine ARun.ret ?_
  refine ⟨_, _, _, .tmp rfl .nil, .cons (.same _) .nil, rfl, ?_⟩
  rfl
theorem ZfW (S : Nat → Bool) : PC C Zet [setD S] (fun o => o = .ret (.clos Zcb [.sptr [.clos Zbg [.sptr (swL S)]]])) := by
  refine PC.rn Zcw Zea Zeb (rs := [.tmp 2]) (by rw [Zec]) ?_
  refine ARun.seq (ARun.region ?_); refine zzb ?_; refine zza ?_; refine AOps.nil (ARun.seq (ARun.region ?_))
  refine y_op rfl (Zft rfl) ?_
  refine ZbF rfl rfl rfl rfl rfl rfl rfl rfl rfl rfl rfl ?_
  refine AOps.nil (ARun.seq (ARun.region ?_))
  refine y_op rfl (Zft rfl) ?_
  refine zza ?_; refine AOps.nil ?_
  refine ARun.ret ?_
  refine ⟨_, _, _, .tmp rfl .nil, .cons (.same _) .nil, rfl, ?_⟩
  rfl
theorem rinC_rin {S : Nat → Bool} {c : Nat} (h : c < 256) : rinC S c = rin S c := by unfold rinC; rw [decide_eq_true h, Bool.true_and]
theorem Zgh (S : Nat → Bool) (H0 : Heap) (id : Nat) (ps : List Tmp) (hps : ps.length = 2) (asg bd : Code) (envL : List D) (W : List Nat → Heap → Prop) (L0 : List Nat)
    (hW : ∀ L H, W L H → H[id]? = some (loopO .ready ps.toArray asg bd envL))
    (hround : ∀ (c d : Nat) (L : List Nat) (H : Heap), W L H → 1 ≤ c → c ≤ d → d < 256 → L.length ≤ L0.length + c → ARun C (QRound id (fun j H' => j = none ∧ H'[id]? = some (loopO .busy ps.toArray asg bd envL) ∧ W (L ++ wr c d) (H'.set id (loopO .ready ps.toArray asg bd envL)))) [.code asg, .beginRound, .code bd] (setL envL (ps.zip [.int .u8 (c : Int), .int .u8 (d : Int)])) H [])
    (h0 : W L0 H0) :
    HC C Zcb H0 [.yld id, .sptr [.clos Zbg [.sptr (swL S)]]] (fun o H' => o = .ret (.tup []) ∧ W (L0 ++ rtx S 1) H') := by
  obtain ⟨T, hT⟩ : ∃ T, T = L0 ++ rtx S 1 := ⟨_, rfl⟩
  rw [← hT]
  refine HC.run ZbP Zdq rfl Zdr (rs := []) (by rw [Zds]) (by simp only [List.length_cons, List.length_nil, Nat.reduceAdd, Nat.reduceSub, List.replicate_succ, List.replicate_zero, List.cons_append, List.nil_append]; exact rfl) ?_
  refine ARun.seq (ARun.region ?_); refine zza ?_; refine AOps.nil (ARun.block ?_)
  refine ARun.loopI (S := Nat × List Nat × Heap) (fun σ : Nat × List Nat × Heap => [(4, .any), (5, .any), (6, .any), (7, .any), (8, .any), (9, .any), (10, .any), (11, .any), (12, .any), (13, .any), (14, .any), (15, .any), (16, .any), (17, .any), (18, .any), (19, .any), (20, .any), (21, .any), (22, .any), (23, .any), (24, .any), (25, .any), (26, .any), (3, .int .i64 (σ.1 : Int))]) (fun σ : Nat × List Nat × Heap => σ.2.2) (fun σ : Nat × List Nat × Heap => 1 ≤ σ.1 ∧ σ.1 ≤ 256 ∧ W σ.2.1 σ.2.2 ∧ T = σ.2.1 ++ rtx S σ.1 ∧ σ.2.1.length + 1 ≤ L0.length + σ.1) (fun σ : Nat × List Nat × Heap => 256 - σ.1) ((1, L0, H0)) ?_ ?_ ?_ ?_
  · exact ⟨Nat.le_refl _, (by (dsimp only; omega)), h0, hT, Nat.le_refl _⟩
  · (repeat' first | exact envLe_nil | apply envLe_any | apply envLe_same)
  · rfl
  rintro ⟨c, L, H⟩ hinv ih
  dsimp only at hinv ih ⊢
  obtain ⟨i1, i2, i3, i4, i5⟩ := hinv
  refine ARun.seq (ARun.seq (ARun.region ?_)); refine zzm ?_; refine zzi ?_; refine AOps.nil ?_
  refine ARun.ite rfl (fun g => ?_) (fun g => ?_)
  · skip
    have g : c < 256 := by omega
    refine ARun.skip (ARun.seq (ARun.block (ARun.seq (ARun.seq (ARun.region ?_))))); refine zzl ?_; refine zzm ?_
    refine zzc rfl rfl (ZeQ S c (by omega)) ?_
    refine zzn ?_; refine AOps.nil ?_
    refine ARun.cond rfl (fun a => ?_) (fun a => ?_)
    · skip
      have a : rin S c = false := by rw [← rinC_rin g]; simpa using a
      rw [rtx_no g a] at i4
      refine ARun.exit rfl ?_
      refine ARun.region ?_; refine zzm ?_
      refine y_op rfl (q_add rfl rfl (nadd1_i64 (by omega))) ?_
      refine zza ?_; refine AOps.nil ?_
      refine ARun.again (ih ((c + 1, L, H)) ?_ ?_) ?_ ?_
      · exact ⟨by omega, g, i3, i4, by dsimp only; omega⟩
      · (dsimp only; omega)
      · (repeat' first | exact envLe_nil | apply envLe_any | apply envLe_same)
      rfl
    have a : rin S c = true := by rw [← rinC_rin g]; simpa using a
    have hge := rend_ge S c
    have hlt := rend_lt S c g
    rw [rtx_yes g a] at i4
    obtain ⟨e, he⟩ : ∃ e, e = rend S c := ⟨_, rfl⟩
    rw [← he] at i4 hge hlt
    refine ARun.skip (ARun.seq (ARun.region ?_)); refine zzm ?_; refine zza ?_; refine AOps.nil (ARun.seq (ARun.block ?_))
    refine ARun.loopI (S := Nat) (fun d : Nat => [(14, .any), (15, .any), (16, .any), (17, .any), (18, .any), (19, .any), (3, .int .i64 (d : Int))]) (fun d : Nat => H) (fun d : Nat => c ≤ d ∧ d ≤ e ∧ rend S d = e) (fun d : Nat => 256 - d) (c) ?_ ?_ ?_ ?_
    · exact ⟨Nat.le_refl _, hge, he.symm⟩
    · (repeat' first | exact envLe_nil | apply envLe_any | apply envLe_same)
    · rfl
    rintro d hinv ih2
    obtain ⟨d1, d2, d3⟩ := hinv
    refine ARun.seq (ARun.seq (ARun.region ?_)); refine zzl ?_; refine zzm ?_
    refine y_op rfl (OpQ.cast (d' := .int .i64 ((d + 1 : Nat) : Int)) (q_int rfl rfl rfl) (congrArg (D.int .i64) (by show IntKind.i64.wrap _ = _; rw [IntWalk.i64_in _ (by omega)]; omega))) ?_
    refine zzc rfl rfl (ZeQ S (d + 1) (by omega)) ?_
    refine AOps.nil ?_
    refine ARun.cond rfl (fun y => ?_) (fun y => ?_)
    · skip
      have y2 : d + 1 < 256 ∧ rin S (d + 1) = true := by
        unfold rinC at y
        rw [Bool.and_eq_true, decide_eq_true_eq] at y; exact y
      rw [rend_yes y2.1 y2.2] at d3
      have := rend_ge S (d + 1)
      refine ARun.skip (ARun.block (ARun.region ?_)); refine zzm ?_
      refine y_op rfl (OpQ.cast (d' := .int .i64 ((d + 1 : Nat) : Int)) (q_int rfl rfl rfl) (congrArg (D.int .i64) (by show IntKind.i64.wrap _ = _; rw [IntWalk.i64_in _ (by omega)]; omega))) ?_
      refine zza ?_; refine AOps.nil (ARun.inBlock ?_)
      refine ARun.again (ih2 (d + 1) ?_ ?_) ?_ ?_
      · exact ⟨by omega, by omega, d3⟩
      · omega
      · (repeat' first | exact envLe_nil | apply envLe_any | apply envLe_same)
      rfl
    have y2 : ¬ (d + 1 < 256 ∧ rin S (d + 1) = true) := by
      rintro ⟨y1, y2⟩
      unfold rinC at y
      rw [decide_eq_true y1, y2] at y; cases y
    rw [rend_no y2] at d3
    subst d3
    clear ih2 y y2 d2 he
    refine ARun.exit rfl ?_
    refine ARun.seq (ARun.region ?_); refine zzm ?_; refine zzm ?_
    refine y_op rfl (q_conv rfl rfl rfl (show _ = (c : Int) by rw [IntKind.wrap_u8]; omega)) ?_
    refine zzm ?_
    refine y_op rfl (q_conv rfl rfl rfl (show _ = (d : Int) by rw [IntKind.wrap_u8]; omega)) ?_
    refine AOps.yieldI _ rfl rfl rfl (hW _ _ i3) (by rw [hps]; rfl) rfl (hround c d L H i3 i1 d1 hlt (by omega)) ?_ ?_ ?_
    · rintro q H' ⟨rfl, h1, _⟩
      exact h1
    · skip
      rintro H' ⟨_, h1, h2⟩
      refine zzn ?_; refine AOps.nil ?_
      refine ARun.condF rfl ?_
      refine ARun.skip (ARun.inBlock (ARun.region ?_)); refine zzm ?_
      refine y_op rfl (q_add rfl rfl (nadd1_i64 (by omega))) ?_
      refine zza ?_; refine AOps.nil ?_
      have hwl := wr_len c d
      refine ARun.again (ih ((d + 1, L ++ wr c d, H'.set id (loopO .ready ps.toArray asg bd envL))) ?_ ?_) ?_ ?_
      · exact ⟨by (dsimp only; omega), by (dsimp only; omega), h2, by (dsimp only; rw [List.append_assoc]; exact i4), by (dsimp only; rw [List.length_append]; omega)⟩
      · (dsimp only; omega)
      · (repeat' first | exact envLe_nil | apply envLe_any | apply envLe_same)
      rfl
    rintro c _ ⟨h, _⟩
    cases h
  obtain rfl : c = 256 := by omega
  rw [rtx_end, List.append_nil] at i4
  subst i4
  refine ARun.exit rfl ?_
  refine ARun.nil ?_
  exact ⟨_, _, _, .nil, .nil, rfl, i3⟩
end Go.V
set_option maxHeartbeats 4000000
set_option maxRecDepth 100000
namespace Go.V
open Go.RowKit Go.Proofs
/-! PLAIN LAWS OF SETS' TEXTS. -/
def cnt (f : Nat → Nat) (c : Nat) : Nat := if c < 256 then f c + cnt f (c + 1) else 0
termination_by 256 - c
theorem cnt_yes (f : Nat → Nat) {c : Nat} (h : c < 256) : cnt f c = f c + cnt f (c + 1) := by rw [cnt, if_pos h]
theorem cnt_end (f : Nat → Nat) {c : Nat} (h : ¬ c < 256) : cnt f c = 0 := by rw [cnt, if_neg h]
theorem cnt_le {f g : Nat → Nat} (c : Nat) (h : ∀ x, c ≤ x → x < 256 → f x ≤ g x) : cnt f c ≤ cnt g c := by
  by_cases hc : c < 256
  · rw [cnt_yes f hc, cnt_yes g hc]
    have := cnt_le (f := f) (g := g) (c + 1) (fun x h1 h2 => h x (by omega) h2)
    have := h c (Nat.le_refl c) hc
    omega
  rw [cnt_end f hc]; exact Nat.zero_le _
termination_by 256 - c
theorem cnt_add (f g : Nat → Nat) (c : Nat) : cnt (fun x => f x + g x) c = cnt f c + cnt g c := by
  by_cases hc : c < 256
  · rw [cnt_yes _ hc, cnt_yes f hc, cnt_yes g hc, cnt_add f g (c + 1)]; omega
  rw [cnt_end _ hc, cnt_end _ hc, cnt_end _ hc]
termination_by 256 - c
theorem cnt_zero {f : Nat → Nat} (c : Nat) (h : ∀ x, c ≤ x → x < 256 → f x = 0) : cnt f c = 0 := by
  by_cases hc : c < 256
  · rw [cnt_yes f hc, h c (Nat.le_refl c) hc, cnt_zero (c + 1) (fun x h1 h2 => h x (by omega) h2)]
  rw [cnt_end f hc]
termination_by 256 - c
theorem cnt_one {f : Nat → Nat} (c : Nat) {a : Nat} (ha : c ≤ a) (hl : a < 256) (h : ∀ x, c ≤ x → x < 256 → x ≠ a → f x = 0) : cnt f c = f a := by
  rw [cnt_yes f (by omega)]
  by_cases e : c = a
  · subst e
    rw [cnt_zero (c + 1) (fun x h1 h2 => h x (by omega) h2 (by omega))]; rfl
  rw [h c (Nat.le_refl c) (by omega) e, cnt_one (c + 1) (by omega) hl (fun x h1 h2 h3 => h x (by omega) h2 h3)]; omega
termination_by 256 - c
def b2n (b : Bool) : Nat := bif b then 1 else 0
theorem cnt_ssize (S : Nat → Bool) (c : Nat) (h : c ≤ 256) : ssize S 256 = ssize S c + cnt (fun x => b2n (S x)) c := by
  by_cases hc : c < 256
  · rw [cnt_yes _ hc, cnt_ssize S (c + 1) hc, ssize_succ]; unfold b2n; omega
  obtain rfl : c = 256 := by omega
  rw [cnt_end _ hc]; rfl
termination_by 256 - c
theorem ssize_cnt (S : Nat → Bool) : ssize S 256 = cnt (fun x => b2n (S x)) 0 := by
  rw [cnt_ssize S 0 (by decide)]; show 0 + _ = _; rw [Nat.zero_add]
theorem ssize_other {S : Nat → Bool} (h0 : S 0 = false) : ssize S 256 + ssize (sother S) 256 = 255 := by
  rw [ssize_cnt, ssize_cnt, ← cnt_add, cnt_yes _ (by decide : 0 < 256)]
  have e0 : b2n (S 0) + b2n (sother S 0) = 0 := by unfold sother; rw [h0]; rfl
  rw [e0, Nat.zero_add]
  have e : ∀ c, 1 ≤ c → c ≤ 256 → cnt (fun x => b2n (S x) + b2n (sother S x)) c = 256 - c := by
    intro c h1 h2
    generalize hk : 256 - c = k
    induction k generalizing c with
    | zero => rw [cnt_end _ (by omega)]
    | succ k ih =>
      rw [cnt_yes _ (by omega), ih (c + 1) (by omega) (by omega) (by omega)]
      have : b2n (S c) + b2n (sother S c) = 1 := by
        unfold sother
        rw [decide_eq_true (show c ≠ 0 by omega), Bool.and_true]
        cases S c <;> rfl
      omega
  exact e 1 (Nat.le_refl 1) (by decide)
theorem rin_of {T : Nat → Bool} {c x : Nat} (h1 : c ≤ x) (hc : rin T c = true) (hx : x ≤ rend T c) : rin T x = true := by
  rw [rend] at hx
  split at hx
  · rename_i g
    rcases Nat.eq_or_lt_of_le h1 with rfl | h
    · exact hc
    exact rin_of (c := c + 1) h g.2 hx
  have : x = c := by omega
  rw [this]; exact hc
termination_by 256 - c
theorem rend_at {T : Nat → Bool} {c d : Nat} (hcd : c ≤ d) (h : ∀ x, c < x → x ≤ d → x < 256 ∧ rin T x = true) (hd : ¬ (d + 1 < 256 ∧ rin T (d + 1) = true)) : rend T c = d := by
  rcases Nat.eq_or_lt_of_le hcd with rfl | g
  · exact rend_no hd
  obtain ⟨a, b⟩ := h (c + 1) (by omega) (by omega)
  rw [rend_yes a b]
  exact rend_at (c := c + 1) g (fun x h1 h2 => h x (by omega) h2) hd
termination_by d - c
theorem wr_cnt {T : Nat → Bool} (c d : Nat) (hd : d < 256) (h : ∀ x, c ≤ x → x ≤ d → rin T x = true) (hc : c ≤ d + 1) : (d + 1 - c) + cnt (fun x => b2n (rin T x)) (d + 1) = cnt (fun x => b2n (rin T x)) c := by
  rcases Nat.eq_or_lt_of_le hc with rfl | g
  · rw [Nat.sub_self, Nat.zero_add]
  rw [cnt_yes (c := c) _ (by omega), ← wr_cnt (c + 1) d hd (fun x h1 h2 => h x (by omega) h2) g, h c (Nat.le_refl c) (by omega)]
  unfold b2n; rw [cond_true]; omega
termination_by d + 1 - c
theorem rtx_cnt (T : Nat → Bool) (c : Nat) : (rtx T c).length ≤ cnt (fun x => b2n (rin T x)) c := by
  by_cases h : c < 256
  · cases e : rin T c
    · rw [rtx_no h e, cnt_yes _ h]
      have := rtx_cnt T (c + 1); omega
    rw [rtx_yes h e, List.length_append]
    have h1 := rend_ge T c
    have h2 := rend_lt T c h
    have h3 := wr_len c (rend T c)
    have h4 := rtx_cnt T (rend T c + 1)
    have h5 := wr_cnt (T := T) c (rend T c) h2 (fun x a b => rin_of a e b) (by omega)
    omega
  rw [rtx, dif_neg h]; exact Nat.zero_le _
termination_by 256 - c
theorem setBody_cnt (T : Nat → Bool) : (setBody T).length ≤ ssize T 256 := by
  have hp : ∀ b c, (pre1 b c).length = b2n b := fun b c => by cases b <;> rfl
  have h1 := rtx_cnt T 1
  have h2 : cnt (fun x => b2n (rin T x)) 1 ≤ cnt (fun x => b2n (rin T x)) 0 := by rw [cnt_yes (c := 0) _ (by decide), Nat.zero_add]; exact Nat.le_add_left _ _
  have o : ∀ a, a < 256 → cnt (fun x => if x = a then b2n (T x) else 0) 0 = b2n (T a) := fun a ha => by
    rw [cnt_one (a := a) 0 (Nat.zero_le _) ha (fun x _ _ hne => if_neg hne)]; exact if_pos rfl
  have h3 : cnt (fun x => b2n (rin T x)) 0 + (b2n (T 93) + (b2n (T 94) + b2n (T 45))) ≤ ssize T 256 := by
    rw [← o 93 (by decide), ← o 94 (by decide), ← o 45 (by decide), ← cnt_add, ← cnt_add, ← cnt_add, ssize_cnt]
    refine cnt_le 0 fun x _ _ => ?_
    unfold rin
    cases T x
    · simp [b2n]
    by_cases e1 : x = 93
    · subst e1; simp [b2n]
    by_cases e2 : x = 94
    · subst e2; simp [b2n]
    by_cases e3 : x = 45
    · subst e3; simp [b2n]
    simp [b2n, e1, e2, e3]
  unfold setBody
  rw [List.length_append, List.length_append, List.length_append, hp, hp, hp]
  omega
theorem rtx_all {T : Nat → Bool} (h : ∀ x, 1 ≤ x → x < 256 → x ≠ 45 → x ≠ 93 → x ≠ 94 → T x = true) : (rtx T 1).length ≤ 9 := by
  have hi : ∀ x, 1 ≤ x → x < 256 → x ≠ 45 → x ≠ 93 → x ≠ 94 → rin T x = true := fun x a b c d e => by
    unfold rin; rw [h x a b c d e, decide_eq_false d, decide_eq_false e, decide_eq_false c]; rfl
  have no : ∀ x, x = 45 ∨ x = 93 ∨ x = 94 → rin T x = false := fun x hx => by
    unfold rin
    rcases hx with rfl | rfl | rfl <;> simp
  have e1 : rend T 1 = 44 := rend_at (by decide) (fun x a b => ⟨by omega, hi x (by omega) (by omega) (by omega) (by omega) (by omega)⟩) (fun g => by rw [no 45 (.inl rfl)] at g; cases g.2)
  have e2 : rend T 46 = 92 := rend_at (by decide) (fun x a b => ⟨by omega, hi x (by omega) (by omega) (by omega) (by omega) (by omega)⟩) (fun g => by rw [no 93 (.inr (.inl rfl))] at g; cases g.2)
  have e3 : rend T 95 = 255 := rend_at (by decide) (fun x a b => ⟨by omega, hi x (by omega) (by omega) (by omega) (by omega) (by omega)⟩) (fun g => absurd g.1 (by decide))
  have w : ∀ c d, c + 2 ≤ d → (wr c d).length = 3 := fun c d g => by unfold wr; rw [if_pos g]; rfl
  rw [rtx_yes (by decide) (hi 1 (by decide) (by decide) (by decide) (by decide) (by decide)), e1, rtx_no (by decide) (no 45 (.inl rfl)), rtx_yes (by decide) (hi 46 (by decide) (by decide) (by decide) (by decide) (by decide)), e2, rtx_no (by decide) (no 93 (.inr (.inl rfl))), rtx_no (by decide) (no 94 (.inr (.inr rfl))), rtx_yes (by decide) (hi 95 (by decide) (by decide) (by decide) (by decide) (by decide)), e3, rtx_end]
  simp only [List.length_append, List.length_nil]
  rw [w 1 44 (by decide), w 46 92 (by decide), w 95 255 (by decide)]; decide
theorem setBody_all {T : Nat → Bool} (h : ∀ x, 1 ≤ x → x < 256 → x ≠ 45 → x ≠ 93 → x ≠ 94 → T x = true) : (setBody T).length ≤ 12 := by
  have h1 := rtx_all h
  have hp : ∀ b c, (pre1 b c).length ≤ 1 := fun b c => by cases b <;> simp [pre1]
  have a := hp (T 93) 93; have b := hp (T 94) 94; have c := hp (T 45) 45
  unfold setBody
  rw [List.length_append, List.length_append, List.length_append]
  omega
theorem b2n_le (b : Bool) : b2n b ≤ 1 := by cases b <;> decide
theorem full_of {S : Nat → Bool} (h0 : S 0 = false) (h : ssize S 256 = 255) {x : Nat} (h1 : 1 ≤ x) (h2 : x < 256) : S x = true := by
  have e := ssize_other h0
  have hz : cnt (fun x => b2n (sother S x)) 0 = 0 := by rw [← ssize_cnt]; omega
  have hs : sother S x = false := by
    cases g : sother S x
    · rfl
    have : cnt (fun y => if y = x then 1 else 0) 0 ≤ cnt (fun x => b2n (sother S x)) 0 := cnt_le 0 fun y _ _ => by
      by_cases e : y = x
      · subst e; rw [if_pos rfl, g]; exact Nat.le_refl 1
      rw [if_neg e]; exact Nat.zero_le _
    rw [cnt_one (a := x) 0 (Nat.zero_le _) h2 (fun y _ _ hne => if_neg hne), if_pos rfl] at this
    omega
  unfold sother at hs
  rw [decide_eq_true (show x ≠ 0 by omega), Bool.and_true] at hs
  simpa using hs
theorem none_of {S : Nat → Bool} (h : ssize S 256 = 0) {x : Nat} (h2 : x < 256) : S x = false := by
  cases g : S x
  · rfl
  have : cnt (fun y => if y = x then 1 else 0) 0 ≤ cnt (fun x => b2n (S x)) 0 := cnt_le 0 fun y _ _ => by
    by_cases e : y = x
    · subst e; rw [if_pos rfl, g]; exact Nat.le_refl 1
    rw [if_neg e]; exact Nat.zero_le _
  rw [cnt_one (a := x) 0 (Nat.zero_le _) h2 (fun y _ _ hne => if_neg hne), if_pos rfl, ← ssize_cnt] at this
  omega
theorem one_of {S : Nat → Bool} (h : ssize S 256 = 1) {a x : Nat} (ha : a < 256) (hS : S a = true) (h2 : x < 256) (hne : x ≠ a) : S x = false := by
  cases g : S x
  · rfl
  have : cnt (fun y => (if y = x then 1 else 0) + (if y = a then 1 else 0)) 0 ≤ cnt (fun x => b2n (S x)) 0 := cnt_le 0 fun y _ _ => by
    by_cases e : y = x
    · subst e; rw [if_pos rfl, if_neg hne, g]; exact Nat.le_refl 1
    rw [if_neg e]
    by_cases e2 : y = a
    · subst e2; rw [if_pos rfl, hS]; exact Nat.le_refl 1
    rw [if_neg e2]; exact Nat.zero_le _
  rw [cnt_add, cnt_one (a := x) 0 (Nat.zero_le _) h2 (fun y _ _ hne => if_neg hne), cnt_one (a := a) 0 (Nat.zero_le _) ha (fun y _ _ hne => if_neg hne), if_pos rfl, if_pos rfl, ← ssize_cnt] at this
  omega
theorem setTx_128 (S : Nat → Bool) : (setTx S).1.length ≤ 128 := by
  unfold setTx
  cases h0 : S 0
  · rw [cond_false]
    have ho := ssize_other h0
    cases hn : setNeg (ssize S 256) (S 94)
    · rw [cond_false]
      cases (decide (ssize S 256 = 2) && S 94) && S 45
      · rw [cond_false]
        have hb := setBody_cnt S
        unfold setNeg at hn
        simp only [Bool.or_eq_false_iff, Bool.and_eq_false_iff, decide_eq_false_iff_not] at hn
        show (setBody S).length ≤ 128
        by_cases h5 : ssize S 256 = 255
        · have := setBody_all (T := S) (fun x a b _ _ _ => full_of h0 h5 a b); omega
        omega
      show (2 : Nat) ≤ 128; decide
    rw [cond_true]
    show (setBody (sother S)).length + 1 ≤ 128
    have hb := setBody_cnt (sother S)
    have hs : ∀ x, 1 ≤ x → S x = false → sother S x = true := fun x a b => by
      unfold sother; rw [b, decide_eq_true (show x ≠ 0 by omega)]; rfl
    unfold setNeg at hn
    simp only [Bool.or_eq_true, Bool.and_eq_true, decide_eq_true_eq] at hn
    rcases hn with (h | h) | h
    · have := setBody_all (T := sother S) (fun x a b _ _ _ => hs x a (none_of h b)); omega
    · omega
    have := setBody_all (T := sother S) (fun x a b _ _ c => hs x a (one_of h.1 (by decide) h.2 b c)); omega
  exact Nat.zero_le _
def nodash (l : List Nat) : Prop := ∀ b r, l ≠ 45 :: b :: r
theorem rdI_one {S : Nat → Bool} {a : Nat} {l : List Nat} (h : nodash l) : rdI S (a :: l) = rdI (sr S a (a + 1)) l := by
  cases l with
  | nil => rfl
  | cons c l =>
    cases l with
    | nil => rfl
    | cons b r =>
      rw [rdI, if_neg (fun e => h b r (by rw [e]))]
theorem rdI_rng {S : Nat → Bool} {a b : Nat} {l : List Nat} (h : a ≤ b) : rdI S (a :: 45 :: b :: l) = rdI (sr S a (b + 1)) l := by
  rw [rdI, if_pos rfl, if_neg (by omega)]
theorem sr_in (S : Nat → Bool) (a b x : Nat) : sr S a b x = (S x || (decide (a ≤ x) && decide (x < b))) := rfl
theorem rdI_wr {S : Nat → Bool} {c d : Nat} {l : List Nat} (hcd : c ≤ d) (hc : c ≠ 45) (hd : d ≠ 45) (h : nodash l) : rdI S (wr c d ++ l) = rdI (sr S c (d + 1)) l := by
  unfold wr
  split
  · exact rdI_rng hcd
  rename_i g
  rcases Nat.eq_or_lt_of_le hcd with rfl | g2
  · rw [show c + 1 - c = 1 by omega]
    exact rdI_one h
  obtain rfl : d = c + 1 := by omega
  rw [show c + 1 + 1 - c = 2 by omega]
  show rdI S (c :: (c + 1) :: l) = _
  rw [rdI_one (fun b r e => hd (by injection e)), rdI_one h, show sr (sr S c (c + 1)) (c + 1) (c + 1 + 1) = sr S c (c + 1 + 1) from ?_]
  funext x
  rw [sr_in, sr_in, sr_in, Bool.or_assoc]
  congr 1
  rw [← Bool.decide_and, ← Bool.decide_and, ← Bool.decide_and, ← Bool.decide_or]
  exact decide_eq_decide.2 (by omega)
theorem rin_ne {T : Nat → Bool} {c : Nat} (h : rin T c = true) : T c = true ∧ c ≠ 45 ∧ c ≠ 93 ∧ c ≠ 94 := by
  unfold rin at h
  simp only [Bool.and_eq_true, Bool.not_eq_true', Bool.or_eq_false_iff, decide_eq_false_iff_not] at h
  exact ⟨h.1, h.2.2.2, h.2.1, h.2.2.1⟩
theorem wr_head (c d : Nat) (hcd : c ≤ d) : ∃ r, wr c d = c :: r := by
  unfold wr; split
  · exact ⟨_, rfl⟩
  obtain ⟨k, hk⟩ : ∃ k, d + 1 - c = k + 1 := ⟨d - c, by omega⟩
  rw [hk, List.range_succ_eq_map]; exact ⟨_, by rw [List.map_cons, Nat.add_zero]⟩
theorem nodash_rtx (T : Nat → Bool) (c : Nat) {l : List Nat} (h : nodash l) : nodash (rtx T c ++ l) := by
  by_cases hc : c < 256
  · cases e : rin T c
    · rw [rtx_no hc e]; exact nodash_rtx T (c + 1) h
    rw [rtx_yes hc e]
    obtain ⟨r, hr⟩ := wr_head c (rend T c) (rend_ge T c)
    rw [hr]
    intro b r e2
    have := (rin_ne e).2.1
    injection e2 with e2; exact this e2
  rw [rtx, dif_neg hc]; exact h
termination_by 256 - c
theorem rdI_rtx (T : Nat → Bool) (S : Nat → Bool) (c : Nat) {l : List Nat} (h : nodash l) : ∃ S', rdI S (rtx T c ++ l) = rdI S' l ∧ ∀ x, S' x = (S x || (decide (c ≤ x) && (decide (x < 256) && rin T x))) := by
  by_cases hc : c < 256
  · cases e : rin T c
    · rw [rtx_no hc e]
      obtain ⟨S', h1, h2⟩ := rdI_rtx T S (c + 1) h
      refine ⟨S', h1, fun x => ?_⟩
      rw [h2 x]
      congr 1
      by_cases hx : x = c
      · subst hx; rw [e, Bool.and_false, Bool.and_false, Bool.and_false]
      rw [decide_eq_decide.2 (show c + 1 ≤ x ↔ c ≤ x by omega)]
    rw [rtx_yes hc e]
    have h1 := rend_ge T c
    have h2 := rend_lt T c hc
    have h3 := rin_ne e
    have h4 := rin_ne (rin_of h1 e (Nat.le_refl _))
    rw [List.append_assoc, rdI_wr h1 h3.2.1 h4.2.1 (nodash_rtx T _ h)]
    obtain ⟨S', g1, g2⟩ := rdI_rtx T (sr S c (rend T c + 1)) (rend T c + 1) h
    refine ⟨S', g1, fun x => ?_⟩
    rw [g2 x, sr_in, Bool.or_assoc]
    congr 1
    by_cases a : x ≤ rend T c
    · rw [decide_eq_false (show ¬ rend T c + 1 ≤ x by omega), Bool.false_and, Bool.or_false, decide_eq_true (show x < rend T c + 1 by omega), Bool.and_true]
      by_cases b : c ≤ x
      · rw [decide_eq_true b, rin_of b e a, decide_eq_true (show x < 256 by omega)]; rfl
      rw [decide_eq_false b]; rfl
    rw [decide_eq_true (show rend T c + 1 ≤ x by omega), Bool.true_and, decide_eq_false (show ¬ x < rend T c + 1 by omega), Bool.and_false, Bool.false_or, decide_eq_true (show c ≤ x by omega), Bool.true_and]
  refine ⟨S, by rw [rtx, dif_neg hc]; rfl, fun x => ?_⟩
  by_cases hx : c ≤ x
  · rw [decide_eq_false (show ¬ x < 256 by omega), Bool.false_and, Bool.and_false, Bool.or_false]
  rw [decide_eq_false hx, Bool.false_and, Bool.or_false]
termination_by 256 - c
theorem rdI_pre {S : Nat → Bool} {b : Bool} {a : Nat} {l : List Nat} (h : nodash l) : ∃ S', rdI S (pre1 b a ++ l) = rdI S' l ∧ ∀ x, S' x = (S x || (b && decide (x = a))) := by
  cases b
  · exact ⟨S, rfl, fun x => by rw [Bool.false_and, Bool.or_false]⟩
  refine ⟨sr S a (a + 1), rdI_one h, fun x => ?_⟩
  rw [sr_in, Bool.true_and, ← Bool.decide_and]
  congr 1
  exact decide_eq_decide.2 (by omega)
theorem nodash_pre {b : Bool} {a : Nat} {l : List Nat} (ha : a ≠ 45) (h : nodash l) : nodash (pre1 b a ++ l) := by
  cases b
  · exact h
  intro x r e
  have e : a :: l = 45 :: x :: r := e
  injection e with e; exact ha e
theorem nodash_last (b : Bool) : nodash (pre1 b 45) := by cases b <;> (intro x r e; cases e)
theorem rdI_body (T : Nat → Bool) : ∃ S', rdI sempty (setBody T) = some S' ∧ ∀ x, 1 ≤ x → x < 256 → S' x = T x := by
  unfold setBody
  have n1 : nodash (pre1 (T 45) 45) := nodash_last _
  have n2 := nodash_pre (b := T 94) (a := 94) (by decide) n1
  have n3 := nodash_rtx T 1 n2
  obtain ⟨S1, a1, b1⟩ := rdI_pre (S := sempty) (b := T 93) (a := 93) n3
  obtain ⟨S2, a2, b2⟩ := rdI_rtx T S1 1 n2
  obtain ⟨S3, a3, b3⟩ := rdI_pre (S := S2) (b := T 94) (a := 94) n1
  obtain ⟨S4, a4, b4⟩ := rdI_pre (S := S3) (b := T 45) (a := 45) (l := []) (fun _ _ e => by cases e)
  rw [List.append_nil] at a4
  refine ⟨S4, by rw [a1, a2, a3, a4]; rfl, fun x h1 h2 => ?_⟩
  rw [b4, b3, b2, b1, decide_eq_true h1, decide_eq_true h2]
  unfold sempty rin
  rw [Bool.false_or, Bool.true_and, Bool.true_and]
  by_cases e1 : x = 93
  · subst e1; simp
  by_cases e2 : x = 94
  · subst e2; simp
  by_cases e3 : x = 45
  · subst e3; simp
  simp [e1, e2, e3]
theorem rdI_nz : ∀ (l : List Nat) (S S' : Nat → Bool), (∀ c ∈ l, c ≠ 0) → S 0 = false → rdI S l = some S' → S' 0 = false
  | [], S, S', _, h, e => by injection e with e; rw [← e]; exact h
  | [a], S, S', hz, h, e => by
    rw [rdI, rdI] at e
    injection e with e
    rw [← e, sr_in, h, decide_eq_false (show ¬ a ≤ 0 by have := hz a (by simp); omega)]; rfl
  | [a, b], S, S', hz, h, e => by
    rw [rdI] at e
    refine rdI_nz [b] _ S' (fun c hc => hz c (List.mem_cons_of_mem _ hc)) ?_ e
    rw [sr_in, h, decide_eq_false (show ¬ a ≤ 0 by have := hz a (by simp); omega)]; rfl
  | a :: c :: b :: r, S, S', hz, h, e => by
    have ha : ¬ a ≤ 0 := by have := hz a (by simp); omega
    rw [rdI] at e
    split at e
    · split at e
      · cases e
      refine rdI_nz r _ S' (fun x hx => hz x (List.mem_cons_of_mem _ (List.mem_cons_of_mem _ (List.mem_cons_of_mem _ hx)))) ?_ e
      rw [sr_in, h, decide_eq_false ha]; rfl
    refine rdI_nz (c :: b :: r) _ S' (fun x hx => hz x (List.mem_cons_of_mem _ hx)) ?_ e
    rw [sr_in, h, decide_eq_false ha]; rfl
termination_by l => l.length
theorem wr_mem {T : Nat → Bool} {c d x : Nat} (h : ∀ y, c ≤ y → y ≤ d → rin T y = true) (hcd : c ≤ d) (hx : x ∈ wr c d) : x = 45 ∨ rin T x = true := by
  unfold wr at hx
  split at hx
  · simp only [List.mem_cons, List.not_mem_nil, or_false] at hx
    rcases hx with rfl | rfl | rfl
    · exact .inr (h _ (Nat.le_refl _) hcd)
    · exact .inl rfl
    exact .inr (h _ hcd (Nat.le_refl _))
  rw [List.mem_map] at hx
  obtain ⟨k, hk, rfl⟩ := hx
  rw [List.mem_range] at hk
  exact .inr (h _ (by omega) (by omega))
theorem rtx_mem (T : Nat → Bool) (c : Nat) {x : Nat} (hx : x ∈ rtx T c) : x = 45 ∨ rin T x = true := by
  by_cases hc : c < 256
  · cases e : rin T c
    · rw [rtx_no hc e] at hx; exact rtx_mem T (c + 1) hx
    rw [rtx_yes hc e, List.mem_append] at hx
    have := rend_ge T c
    rcases hx with hx | hx
    · exact wr_mem (fun y a b => rin_of a e b) this hx
    exact rtx_mem T (rend T c + 1) hx
  rw [rtx, dif_neg hc] at hx; cases hx
termination_by 256 - c
theorem tail_mem {T : Nat → Bool} {x : Nat} (hx : x ∈ rtx T 1 ++ (pre1 (T 94) 94 ++ pre1 (T 45) 45)) : x = 45 ∨ x = 94 ∨ rin T x = true := by
  rw [List.mem_append, List.mem_append] at hx
  rcases hx with hx | hx | hx
  · exact (rtx_mem T 1 hx).imp id .inr
  · cases e : T 94
    · rw [e] at hx; cases hx
    rw [e] at hx
    have hx : x ∈ [94] := hx
    rw [List.mem_singleton] at hx; exact .inr (.inl hx)
  cases e : T 45
  · rw [e] at hx; cases hx
  rw [e] at hx
  have hx : x ∈ [45] := hx
  rw [List.mem_singleton] at hx; exact .inl hx
theorem body_good {T : Nat → Bool} (h0 : T 0 = false) (hne : setBody T ≠ []) : rdBad (setBody T) = false := by
  have hr : ∀ {x}, rin T x = true → x ≠ 0 ∧ x ≠ 93 := fun {x} h => ⟨fun e => Bool.noConfusion ((e ▸ (rin_ne h).1 : T 0 = true).symm.trans h0), (rin_ne h).2.2.1⟩
  have ht : ∀ {x}, x ∈ rtx T 1 ++ (pre1 (T 94) 94 ++ pre1 (T 45) 45) → x ≠ 0 ∧ x ≠ 93 := fun {x} hx => by
    rcases tail_mem hx with e | e | e
    · subst e; decide
    · subst e; decide
    exact hr e
  unfold rdBad
  rw [decide_eq_false hne, Bool.false_or, Bool.or_eq_false_iff, decide_eq_false_iff_not, decide_eq_false_iff_not]
  unfold setBody
  cases T 93
  · refine ⟨fun h => (ht h).1 rfl, fun h => (ht (List.mem_of_mem_drop h)).2 rfl⟩
  refine ⟨fun h => ?_, fun h => (ht h).2 rfl⟩
  have h : 0 ∈ 93 :: (rtx T 1 ++ (pre1 (T 94) 94 ++ pre1 (T 45) 45)) := h
  rw [List.mem_cons] at h
  exact h.elim (fun e => by cases e) (fun h => (ht h).1 rfl)
theorem body_ne {T : Nat → Bool} {x : Nat} (h1 : 1 ≤ x) (h2 : x < 256) (h : T x = true) : setBody T ≠ [] := by
  intro e
  obtain ⟨S', a, b⟩ := rdI_body T
  rw [e] at a
  injection a with a
  have := b x h1 h2
  rw [← a, h] at this; cases this
theorem rtx_ne {T : Nat → Bool} (c : Nat) {x : Nat} (h1 : c ≤ x) (h2 : x < 256) (h : rin T x = true) : ∃ y r, rtx T c = y :: r ∧ rin T y = true := by
  have hc : c < 256 := by omega
  cases e : rin T c
  · rw [rtx_no hc e]
    exact rtx_ne (c + 1) ((Nat.eq_or_lt_of_le h1).elim (fun g => by rw [← g, e] at h; cases h) id) h2 h
  rw [rtx_yes hc e]
  obtain ⟨r, hr⟩ := wr_head c (rend T c) (rend_ge T c)
  rw [hr]; exact ⟨c, _, rfl, e⟩
termination_by 256 - c
theorem body_caret {T : Nat → Bool} {r : List Nat} (h : setBody T = 94 :: r) : ∀ x, 1 ≤ x → x < 256 → T x = true → x = 94 ∨ x = 45 := by
  intro x h1 h2 h3
  unfold setBody at h
  cases e : T 93
  · rw [e] at h
    have h : rtx T 1 ++ (pre1 (T 94) 94 ++ pre1 (T 45) 45) = 94 :: r := h
    by_cases a : x = 94
    · exact .inl a
    by_cases b : x = 45
    · exact .inr b
    exfalso
    have hx : rin T x = true := by
      unfold rin
      rw [h3, decide_eq_false (show ¬ x = 93 from fun g => by rw [g, e] at h3; cases h3), decide_eq_false a, decide_eq_false b]; rfl
    obtain ⟨y, q, hq, hy⟩ := rtx_ne 1 h1 h2 hx
    rw [hq] at h
    injection h with h
    exact (rin_ne hy).2.2.2 h
  rw [e] at h
  have h : 93 :: (rtx T 1 ++ (pre1 (T 94) 94 ++ pre1 (T 45) 45)) = 94 :: r := h
  injection h with h; cases h
end Go.V
set_option maxHeartbeats 8000000
set_option maxRecDepth 100000
set_option synthInstance.maxSize 100000
set_option synthInstance.maxHeartbeats 2000000
namespace Go.V
open Go.RowKit Go.Proofs
/-! HOW A SET IS WRITTEN. -/
abbrev sCar : Nat → Bool := swith sempty 94
abbrev sDash : Nat → Bool := swith sempty 45
abbrev sBoth : Nat → Bool := swith sCar 45
theorem ssize_congr {S T : Nat → Bool} (h : ∀ c, c < 256 → S c = T c) : ssize S 256 = ssize T 256 := by
  rw [ssize_cnt, ssize_cnt]
  exact Nat.le_antisymm (cnt_le 0 fun x _ hx => by rw [h x hx]; exact Nat.le_refl _) (cnt_le 0 fun x _ hx => by rw [h x hx]; exact Nat.le_refl _)
theorem sBoth_at (c : Nat) : sBoth c = (decide (c = 94) || decide (c = 45)) := rfl
theorem sCar_at (c : Nat) : sCar c = decide (c = 94) := rfl
theorem cnt_ind (a : Nat) (h : a < 256) : cnt (fun y => b2n (decide (y = a))) 0 = 1 := by
  rw [cnt_one (a := a) 0 (Nat.zero_le _) h (fun y _ _ hne => by unfold b2n; rw [decide_eq_false hne]; rfl), decide_eq_true rfl]; rfl
theorem ssize_car : ssize sCar 256 = 1 := by rw [ssize_cnt]; exact cnt_ind 94 (by decide)
theorem ssize_both : ssize sBoth 256 = 2 := by
  have e : cnt (fun y => b2n (decide (y = 94)) + b2n (decide (y = 45))) 0 = 2 := by rw [cnt_add, cnt_ind 94 (by decide), cnt_ind 45 (by decide)]
  rw [ssize_cnt, ← e]
  have : ∀ y, b2n (sBoth y) = b2n (decide (y = 94)) + b2n (decide (y = 45)) := fun y => by
    rw [sBoth_at]
    by_cases h1 : y = 94
    · subst h1; rfl
    rw [decide_eq_false h1]; unfold b2n; simp
  simp only [this]
theorem sEq_car {S : Nat → Bool} : sEq S sCar = (decide (ssize S 256 = 1) && S 94) := by
  rw [Bool.eq_iff_iff, sEq_ext, Bool.and_eq_true, decide_eq_true_eq]
  constructor
  · intro h
    exact ⟨(ssize_congr h).trans ssize_car, (h 94 (by decide)).trans rfl⟩
  rintro ⟨h1, h2⟩ c hc
  rw [sCar_at]
  by_cases e : c = 94
  · subst e; rw [h2]; rfl
  rw [decide_eq_false e]; exact one_of h1 (by decide) h2 hc e
theorem two_of {S : Nat → Bool} (h : ssize S 256 = 2) {a b x : Nat} (ha : a < 256) (hb : b < 256) (hab : a ≠ b) (hS : S a = true) (hT : S b = true) (h2 : x < 256) (hxa : x ≠ a) (hxb : x ≠ b) : S x = false := by
  cases g : S x
  · rfl
  have : cnt (fun y => b2n (decide (y = x)) + (b2n (decide (y = a)) + b2n (decide (y = b)))) 0 ≤ cnt (fun x => b2n (S x)) 0 := cnt_le 0 fun y _ _ => by
    by_cases e : y = x
    · subst e; rw [decide_eq_false hxa, decide_eq_false hxb, decide_eq_true rfl, g]; exact Nat.le_refl 1
    rw [decide_eq_false e]
    by_cases e2 : y = a
    · subst e2; rw [decide_eq_false hab, decide_eq_true rfl, hS]; exact Nat.le_refl 1
    rw [decide_eq_false e2]
    by_cases e3 : y = b
    · subst e3; rw [decide_eq_true rfl, hT]; exact Nat.le_refl 1
    rw [decide_eq_false e3]; exact Nat.zero_le _
  rw [cnt_add, cnt_add, cnt_ind x h2, cnt_ind a ha, cnt_ind b hb, ← ssize_cnt] at this
  omega
theorem sEq_both {S : Nat → Bool} : sEq S sBoth = ((decide (ssize S 256 = 2) && S 94) && S 45) := by
  rw [Bool.eq_iff_iff, sEq_ext, Bool.and_eq_true, Bool.and_eq_true, decide_eq_true_eq]
  constructor
  · intro h
    exact ⟨⟨(ssize_congr h).trans ssize_both, (h 94 (by decide)).trans rfl⟩, (h 45 (by decide)).trans rfl⟩
  rintro ⟨⟨h1, h2⟩, h3⟩ c hc
  rw [sBoth_at]
  by_cases e : c = 94
  · subst e; rw [h2]; rfl
  by_cases e2 : c = 45
  · subst e2; rw [h3]; rfl
  rw [decide_eq_false e, decide_eq_false e2]
  exact two_of h1 (by decide) (by decide) (by decide) h2 h3 hc e e2
theorem ssize_255 {S : Nat → Bool} (h0 : S 0 = false) : ssize S 256 ≤ 255 := by have := ssize_other h0; omega
theorem neg_alt {n : Nat} {b q : Bool} (hn : n ≤ 255) (hq : q = (decide (n = 1) && b)) : (!(((decide (1 ≤ n) && decide (n ≤ 127)) && !q) || decide (n = 255))) = setNeg n b := by
  subst hq
  unfold setNeg
  by_cases h0 : n = 0
  · subst h0; cases b <;> rfl
  by_cases h1 : n = 1
  · subst h1; cases b <;> rfl
  rw [decide_eq_false h0, decide_eq_false h1, decide_eq_true (show 1 ≤ n by omega), Bool.false_and, Bool.false_or, Bool.or_false, Bool.true_and, Bool.not_false, Bool.and_true]
  by_cases h2 : n ≤ 127
  · rw [decide_eq_true h2, decide_eq_false (show ¬ 127 < n by omega)]; rfl
  rw [decide_eq_false h2, decide_eq_true (show 127 < n by omega), Bool.false_or, Bool.true_and, ← decide_not]
  exact decide_eq_decide.2 (by omega)
theorem word_dash (T : Nat → Bool) : (((sw T 0 &&& sw sDash 0 : Nat) : Int) != 0) = T 45 := by
  have hd : sw sDash 0 = 2 ^ 45 := (sw_ext (by decide) fun j hj => by
    rw [Nat.testBit_two_pow]
    unfold sDash swith sempty
    rw [Bool.false_or]
    exact decide_eq_decide.2 (by omega)).symm
  rw [hd]
  have hb : (sw T 0).testBit 45 = T 45 := sw_bit T 0 (by decide)
  rw [← hb]
  have ht : (sw T 0 &&& 2 ^ 45).testBit 45 = (sw T 0).testBit 45 := by rw [Nat.testBit_and, Nat.testBit_two_pow_self, Bool.and_true]
  cases e : (sw T 0).testBit 45
  · have h0 : sw T 0 &&& 2 ^ 45 = 0 := Nat.eq_of_testBit_eq fun i => by
      rw [Nat.testBit_and, Nat.testBit_two_pow, Nat.zero_testBit]
      by_cases hi : 45 = i
      · subst hi; rw [e]; rfl
      rw [decide_eq_false hi, Bool.and_false]
    rw [h0]; rfl
  rw [e] at ht
  have hne : sw T 0 &&& 2 ^ 45 ≠ 0 := fun h => by rw [h, Nat.zero_testBit] at ht; cases ht
  rw [bne_iff_ne]
  omega
theorem setBody_lt (T : Nat → Bool) : ∀ x ∈ setBody T, x < 256 := by
  unfold setBody
  intro x hx
  have hp : ∀ b c, c < 256 → x ∈ pre1 b c → x < 256 := fun b c hc h => by
    cases b
    · cases h
    have h : x ∈ [c] := h
    rw [List.mem_singleton] at h; omega
  rw [List.mem_append, List.mem_append, List.mem_append] at hx
  rcases hx with h | h | h | h
  · exact hp _ 93 (by decide) h
  · exact rtx_lt T 1 x h
  · exact hp _ 94 (by decide) h
  exact hp _ 45 (by decide) h
theorem setTx_lt (S : Nat → Bool) : ∀ x ∈ (setTx S).1, x < 256 := by
  unfold setTx
  cases S 0
  · rw [cond_false]
    cases setNeg (ssize S 256) (S 94)
    · rw [cond_false]
      cases (decide (ssize S 256 = 2) && S 94) && S 45
      · exact setBody_lt S
      intro x hx
      have hx : x ∈ [45, 94] := hx
      simp only [List.mem_cons, List.not_mem_nil, or_false] at hx; omega
    intro x hx
    have hx : x ∈ 94 :: setBody (sother S) := hx
    rw [List.mem_cons] at hx
    exact hx.elim (fun e => by omega) (setBody_lt _ x)
  intro x hx; cases hx
theorem BldS.set {H : Heap} {k j : Nat} {L : List Nat} {o : AObj} {x : Option AObj} (h : BldS H k L) (hj : H[j]? = some (some o)) (hne : j ≠ k) (he : o.elem ≠ Zbi) : BldS (H.set j x) k L :=
  h.keep fun i y hy hc => by
    rcases hc with hc | rfl
    · have : j ≠ i := by rintro rfl; rw [hj] at hy; injection hy with hy; injection hy with hy; subst hy; exact he hc
      rw [List.getElem?_set_ne this]; exact hy
    rw [List.getElem?_set_ne hne]; exact hy
theorem BldS.app {H M : Heap} {k : Nat} {L : List Nat} (h : BldS H k L) : BldS (H ++ M) k L :=
  h.keep fun i y hy _ => by rw [List.getElem?_append_left (List.getElem?_eq_some_iff.1 hy).1]; exact hy
theorem get_app {H M : Heap} {i : Nat} {x : Option AObj} (h : H[i]? = some x) : (H ++ M)[i]? = some x := by
  rw [List.getElem?_append_left (List.getElem?_eq_some_iff.1 h).1]; exact h
theorem Zgz {env : List D} {H : Heap} {dst : Option Tmp} {x y : Operand} {ty T' : TypeId} {pos : String} {aft : Array Edge} {gd : Option (Nat × Bool)} {S T : Nat → Bool} (hx : evO C env x = some (setD S)) (hy : evO C env y = some (setD T)) :
    OpQ C ⟨dst, .binOp .neq Zaf x y T', ty, pos, aft, gd⟩ env H (.bool (!sEq S T)) :=
  ZfT (m := 2) (f := 2) (by kernel_rfl) (by decide) (by kernel_rfl) hx hy rfl rfl rfl rfl (set_lits (sw_lt S 0) (sw_lt S 1) (sw_lt S 2) (sw_lt S 3)) (set_lits (sw_lt T 0) (sw_lt T 1) (sw_lt T 2) (sw_lt T 3)) (by
    unfold sEq
    rw [decide_eq_true_eq]
    simp only [List.cons.injEq, Lit.int.injEq, true_and, and_true, Int.ofNat_inj])
abbrev setO (T : Nat → Bool) : Option AObj := some ⟨swL T, Zaf, 1, true, none⟩
end Go.V
set_option maxHeartbeats 8000000
set_option maxRecDepth 100000
set_option synthInstance.maxSize 100000
set_option synthInstance.maxHeartbeats 2000000
namespace Go.V
open Go.RowKit Go.Proofs
theorem ne28 : Zaf ≠ Zbi := by decide
theorem ne0 : (0 : TypeId) ≠ Zbi := by decide
theorem get_last {A : Heap} {x : Option AObj} {n : Nat} (h : n = A.length) : (A ++ [x])[n]? = some x := by
  subst h; rw [List.getElem?_append_right (Nat.le_refl _)]; simp
theorem rnd_in {H : Heap} {n : Nat} {ps : Array Tmp} {asg bd : Code} {env : List D} {L : List Nat} {T : Nat → Bool} (hn : 2 ≤ n) (wb : BldS H 1 L) (w0 : H[0]? = some (setO T)) (w1 : H[n]? = some defsO) (w2 : H[n + 1]? = some (loopO .ready ps asg bd env)) :
    ∃ HB, HB = H.set (n + 1) (loopO .busy ps asg bd env) ∧ BldS HB 1 L ∧ ∀ (H2 : Heap) (M : List Nat), BldS H2 1 M → KeepB HB H2 1 →
      H2[n + 1]? = some (loopO .busy ps asg bd env) ∧ BldS (H2.set (n + 1) (loopO .ready ps asg bd env)) 1 M ∧ (H2.set (n + 1) (loopO .ready ps asg bd env))[0]? = some (setO T) ∧ (H2.set (n + 1) (loopO .ready ps asg bd env))[n]? = some defsO ∧ (H2.set (n + 1) (loopO .ready ps asg bd env))[n + 1]? = some (loopO .ready ps asg bd env) := by
  refine ⟨_, rfl, wb.set w2 (by omega) ne0, fun H2 M hb hk => ?_⟩
  have z2 := hk.2 _ _ (heap_set_get (y := loopO .busy ps asg bd env) w2) (by omega) ne0
  have z0 := hk.2 0 _ (by rw [List.getElem?_set_ne (by omega)]; exact w0) (by decide) ne28
  have z1 := hk.2 n _ (by rw [List.getElem?_set_ne (by omega)]; exact w1) (by omega) ne0
  exact ⟨z2, hb.set z2 (by omega) ne0, by rw [List.getElem?_set_ne (by omega)]; exact z0, by rw [List.getElem?_set_ne (by omega)]; exact z1, heap_set_get z2⟩
theorem BldS.two {H : Heap} {L : List Nat} (h : BldS H 1 L) : 2 ≤ H.length := by
  obtain ⟨p, d, _, hk, _⟩ := h
  exact (List.getElem?_eq_some_iff.1 hk).1
theorem ZdU (S : Nat → Bool) : PC C ZbI [setD S] (fun o => o = .ret (.tup [.str (bytesOf (setTx S).1), .int .i64 (setTx S).2])) := by
  obtain ⟨R, hR⟩ : ∃ R, R = setTx S := ⟨_, rfl⟩
  have hRlt : ∀ x ∈ R.1, x < 256 := by rw [hR]; exact setTx_lt S
  have hRlen : R.1.length ≤ 300 := by rw [hR]; exact setTx_len S
  rw [← hR]
  unfold setTx at hR
  have hn5 := fun h => ssize_255 (S := S) h
  have hcar := sEq_car (S := S)
  have hboth := sEq_both (S := S)
  have hsz := ZfS S
  generalize ssize S 256 = n at *
  refine PC.rn Zby Zc5 Zc6 (rs := [.tmp 2, .tmp 3]) (by rw [Zc7]) ?_
  refine ARun.seq (ARun.region ?_)
  refine y_new rfl (n_box rfl rfl rfl) ?_
  refine zza ?_; refine zza ?_; refine AOps.nil (ARun.seq (ARun.seq (ARun.region ?_)))
  refine y_op rfl (Zah rfl rfl rfl rfl rfl rfl) ?_
  refine zzc rfl rfl (ZbQ S 0 (by decide)) ?_
  refine AOps.nil ?_
  refine ARun.cond rfl (fun h0 => ?_) (fun h0 => ?_)
  · skip
    rw [h0, cond_true] at hR
    subst hR
    refine ARun.seq (ARun.region ?_); refine zza ?_; refine zza ?_; refine AOps.nil ?_
    refine ARun.ret ?_
    refine ⟨_, _, _, .tmp rfl (.tmp rfl .nil), .cons (.same _) (.cons (.same _) .nil), rfl, ?_⟩
    rfl
  rw [h0, cond_false] at hR
  have hn5 := hn5 h0
  refine ARun.skip (ARun.seq (ARun.region ?_))
  refine y_op rfl (Zah rfl rfl rfl rfl rfl rfl) ?_
  refine zzc rfl rfl (hsz) ?_
  refine zza ?_; refine AOps.nil (ARun.seq (ARun.region ?_))
  refine y_op rfl (OpQ.cast (d' := setD sempty) (Zbe rfl rfl rfl) (by show D.agg [_, _, _, _] = D.agg (swL sempty); rw [swL_empty])) ?_
  refine zzc rfl rfl (Zdt sempty 94 (by decide)) ?_
  refine y_op rfl (OpQ.cast (d' := setD sempty) (Zbe rfl rfl rfl) (by show D.agg [_, _, _, _] = D.agg (swL sempty); rw [swL_empty])) ?_
  refine zzc rfl rfl (Zdt sempty 45 (by decide)) ?_
  refine ZfR (alW rfl rfl rfl rfl rfl rfl rfl rfl rfl rfl rfl) (alW rfl rfl rfl rfl rfl rfl rfl rfl rfl rfl rfl) rfl ?_
  refine AOps.nil (ARun.seq (ARun.seq ?_))
  refine ARun.drawnP 4 (fun _ => False) mixC rfl rfl (by kernel_rfl) (fun _ _ h => h.elim) ?_
  refine .op rfl (Zah rfl rfl rfl rfl rfl rfl) ?_
  refine .op rfl (ZaM rfl rfl rfl rfl rfl) ?_
  refine .op rfl (q_call rfl rfl (Zdt sCar 45 (by decide))) ?_
  refine .op rfl (Zgy rfl rfl) ?_
  refine .nil (fun hG => ?_)
  refine AOps.nil ?_
  refine ARun.cond rfl (fun d => ?_) (fun d => ?_)
  · skip
    rw [d] at hboth
    have hng : setNeg n (S 94) = false := by
      have hb := hboth.symm
      rw [Bool.and_eq_true, Bool.and_eq_true, decide_eq_true_eq] at hb
      obtain ⟨⟨rfl, _⟩, _⟩ := hb
      unfold setNeg; cases S 94 <;> rfl
    rw [hng, cond_false, ← hboth, cond_true] at hR
    subst hR
    refine ARun.seq (ARun.region ?_); refine zza ?_; refine zza ?_; refine AOps.nil ?_
    refine ARun.ret ?_
    refine ⟨_, _, _, .tmp rfl (.tmp rfl .nil), .cons (.same _) (.cons (.same _) .nil), rfl, ?_⟩
    rfl
  rw [d] at hboth
  rw [← hboth, cond_false] at hR
  refine ARun.skip (ARun.seq (ARun.region ?_))
  refine y_new rfl (Zbu rfl rfl rfl rfl) ?_
  refine AOps.nil (ARun.seq (ARun.seq (ARun.region ?_))); refine zzm ?_
  refine y_op rfl (OpQ.cast (d' := .bool (decide (1 ≤ n))) (q_int rfl rfl rfl) (congrArg D.bool (decide_eq_decide.2 (by omega)))) ?_
  refine zzm ?_
  apply AOps.andJ 25 (fun sj1 => [(25, .any), (26, .any), (27, .any), (28, .bool sj1)]) rfl
  · intro hj1 run1
    try replace hj1 := of_decide_eq_true hj1
    refine zzm ?_
    refine y_op rfl (OpQ.cast (d' := .bool (decide (n ≤ 127))) (q_int rfl rfl rfl) (congrArg D.bool (decide_eq_decide.2 (by omega)))) ?_
    refine zzp ?_
    exact AOps.ag run1
  · intro hj1 run1
    try replace hj1 := of_decide_eq_false hj1
    refine zzk ?_; refine zzk ?_; refine zzp ?_
    exact AOps.ag run1
  refine zzm ?_
  apply AOps.andJ 29 (fun sj2 => [(29, .any), (30, .any), (31, .any), (32, .any), (33, .bool sj2)]) rfl
  · intro hj2 run2
    try replace hj2 := of_decide_eq_true hj2
    refine y_op rfl (Zah rfl rfl rfl rfl rfl rfl) ?_
    refine zzL ?_
    refine y_op rfl (Zgz rfl rfl) ?_
    refine zzp ?_
    exact AOps.ag run2
  · intro hj2 run2
    try replace hj2 := of_decide_eq_false hj2
    refine zzk ?_; refine zzk ?_; refine zzk ?_; refine zzp ?_
    exact AOps.ag run2
  refine zzm ?_
  apply AOps.orJ 34 (fun sj3 => [(34, .any), (35, .any), (36, .any), (37, .bool sj3)]) rfl
  · intro hj3 run3
    try replace hj3 := of_decide_eq_true hj3
    refine zzk ?_; refine zzk ?_; refine zzp ?_
    exact AOps.ag run3
  · intro hj3 run3
    try replace hj3 := of_decide_eq_false hj3
    refine zzm ?_
    refine y_op rfl (OpQ.cast (d' := .bool (decide (n = 255))) (q_int rfl rfl rfl) (congrArg D.bool (decide_eq_decide.2 (by omega)))) ?_
    refine zzp ?_
    exact AOps.ag run3
  refine y_op rfl (OpQ.cast (q_not rfl) (congrArg D.bool (neg_alt (n := n) (b := S 94) hn5 hcar))) ?_
  refine AOps.nil ?_
  generalize setNeg n (S 94) = ng at *
  refine ARun.joinH (S := List Nat × (Nat → Bool) × Heap) (fun σ : List Nat × (Nat → Bool) × Heap => [(39, .any), (40, .any), (41, .any)]) (fun σ : List Nat × (Nat → Bool) × Heap => σ.2.2) (fun σ : List Nat × (Nat → Bool) × Heap => BldS σ.2.2 1 σ.1 ∧ σ.2.2[0]? = some (setO σ.2.1) ∧ R = (σ.1 ++ setBody σ.2.1, 0) ∧ σ.1.length ≤ 1) (fun run => ?_) ?_
  · skip
    refine ARun.cond rfl (fun y => ?_) (fun y => ?_)
    · skip
      rw [y, cond_true] at hR
      refine ARun.seq (ARun.region ?_)
      refine Zad rfl rfl rfl rfl (Za1 [setO S, bldO .nilptr .nilsl] 1 [] (.new rfl) 94 (by decide)) ?_ (by rintro _ _ ⟨h, _⟩; cases h)
      rintro q1 H1 ⟨e1, b1, k1⟩
      injection e1 with e1
      subst e1
      have g1 := k1.2 0 _ rfl (by decide) ne28
      refine AOps.nil (ARun.region ?_)
      refine y_op rfl (Zah rfl rfl rfl g1 rfl rfl) ?_
      refine zzc rfl rfl (Zez S) ?_
      refine y_new rfl (Zaq rfl rfl rfl rfl rfl rfl g1 rfl (Nat.le_of_ble_eq_true rfl) rfl) ?_
      refine AOps.nil ?_
      exact ARun.ag (run (([94], sother S, H1.set 0 (setO (sother S)))) (⟨b1.set g1 (by decide) ne28, heap_set_get g1, hR, Nat.le_refl 1⟩))
    rw [y, cond_false] at hR
    refine ARun.skip ?_
    exact ARun.ag (run (([], S, [setO S, bldO .nilptr .nilsl])) (⟨.new rfl, rfl, hR, Nat.zero_le 1⟩))
  rintro ⟨P, T, H⟩ hj
  try dsimp only at hj ⊢
  obtain ⟨b1, g1, r1, l1⟩ := hj
  clear hR hboth hcar hsz h0 d hn5
  refine ARun.seq (ARun.seq (ARun.region ?_))
  refine y_op rfl (Zah rfl rfl rfl g1 rfl rfl) ?_
  refine zzc rfl rfl (ZbQ T 93 (by decide)) ?_
  refine AOps.nil ?_
  refine ARun.joinH (S := List Nat × Heap) (fun σ : List Nat × Heap => [(44, .any)]) (fun σ : List Nat × Heap => σ.2) (fun σ : List Nat × Heap => BldS σ.2 1 σ.1 ∧ σ.2[0]? = some (setO T) ∧ R = (σ.1 ++ (rtx T 1 ++ (pre1 (T 94) 94 ++ pre1 (T 45) 45)), 0) ∧ σ.1.length ≤ 2) (fun run => ?_) ?_
  · skip
    unfold setBody at r1
    refine ARun.cond rfl (fun y => ?_) (fun y => ?_)
    · skip
      rw [y] at r1
      refine ARun.region ?_
      refine Zad rfl rfl rfl rfl (Za1 H 1 P b1 93 (by omega)) ?_ (by rintro _ _ ⟨h, _⟩; cases h)
      rintro q1 H1 ⟨e1, b2, k2⟩
      injection e1 with e1
      subst e1
      refine AOps.nil ?_
      exact ARun.ag (run ((P ++ [93], H1)) (⟨b2, k2.2 0 _ g1 (by decide) ne28, (by rw [List.append_assoc]; exact r1), (by rw [List.length_append]; exact Nat.succ_le_succ l1)⟩))
    rw [y] at r1
    refine ARun.skip ?_
    exact ARun.ag (run ((P, H)) (⟨b1, g1, r1, Nat.le_succ_of_le l1⟩))
  rintro ⟨P1, H1⟩ hj
  try dsimp only at hj ⊢
  clear b1 g1 r1 l1
  obtain ⟨b1, g1, r1, l1⟩ := hj
  refine ARun.seq (ARun.seq (ARun.region ?_))
  refine y_op rfl (Zah rfl rfl rfl g1 rfl rfl) ?_
  refine zzc rfl rfl (ZfW T) ?_
  refine AOps.nil (ARun.block ?_)
  have hn2 := b1.two
  refine ARun.rangeFn (n := H1.length) rfl rfl rfl (Zgh T _ (H1.length + 1) [47, 48] rfl _ _ _ (fun L H' => BldS H' 1 L ∧ H'[0]? = some (setO T) ∧ H'[H1.length]? = some defsO ∧ H'[H1.length + 1]? = some (loopO .ready _ _ _ _)) P1 (fun L H' h => h.2.2.2) (fun c d L H' hw hc hcd hd hL => ?_) ⟨(b1.app).app, get_app (get_app g1), get_app (get_last rfl), get_last (by simp)⟩) ?_ ?_
  · skip
    refine ARun.env0 (by simp only [setL, List.zip_cons_cons, List.zip_nil_right, List.set_cons_succ, List.set_cons_zero]; exact rfl) ?_
    obtain ⟨wb, w0, w1, w2⟩ := hw
    obtain ⟨HB, eB, vb, fin⟩ := rnd_in hn2 wb w0 w1 w2
    refine ARun.seq (ARun.region ?_); refine zza ?_; refine AOps.nil (ARun.region ?_); refine zza ?_; refine AOps.nil ?_
    refine ARun.beginRoundI rfl (w2) ?_
    refine ARun.block (ARun.seq (ARun.seq (ARun.region ?_))); refine zzm ?_; refine zzm ?_
    refine y_op rfl (OpQ.cast (d' := .int .u8 ((d - c : Nat) : Int)) (q_int rfl rfl rfl) (congrArg (D.int .u8) (by show IntKind.u8.wrap _ = _; rw [IntKind.wrap_u8]; omega))) ?_
    refine zzi ?_
    rw [← eB]
    refine AOps.nil ?_
    refine ARun.ite rfl (fun z => ?_) (fun z => ?_)
    · skip
      have z : c + 2 ≤ d := by omega
      have hwr : wr c d = [c, 45, d] := if_pos z
      refine ARun.seq (ARun.region ?_); refine zzm ?_; refine zzm ?_
      refine y_op rfl (Zef rfl rfl rfl rfl rfl rfl rfl rfl rfl rfl rfl (by decide) (by decide) rfl) ?_
      refine Zad rfl rfl rfl rfl (Zge _ 1 L vb [c, 45, d] (Nat.succ_pos _) (by show L.length + 3 ≤ _; omega)) ?_ (by rintro _ _ ⟨h, _⟩; cases h)
      rintro q1 H3 ⟨e1, b3, k3⟩
      injection e1 with e1
      subst e1
      refine AOps.nil ?_
      refine ARun.exit rfl ?_
      refine ARun.nil ⟨rfl, rfl, ?_⟩
      rw [hwr]
      exact fin _ _ b3 k3
    have z : ¬ c + 2 ≤ d := by omega
    have hwr : wr c d = (List.range (d + 1 - c)).map (c + ·) := if_neg z
    refine ARun.skip (ARun.seq (ARun.region ?_)); refine zzm ?_
    refine y_op rfl (q_conv rfl rfl rfl (nconv_i64 (by omega))) ?_
    refine zza ?_; refine AOps.nil (ARun.block ?_)
    refine ARun.loopI (S := Nat × List Nat × Heap) (fun σ : Nat × List Nat × Heap => [(10, .int .i64 ((c + σ.1 : Nat) : Int)), (59, .any), (60, .any), (61, .any), (62, .any), (63, .any), (64, .any), (65, .any), (66, .any), (67, .any)]) (fun σ : Nat × List Nat × Heap => σ.2.2) (fun σ : Nat × List Nat × Heap => c + σ.1 ≤ d + 1 ∧ σ.2.1 = L ++ (List.range σ.1).map (c + ·) ∧ BldS σ.2.2 1 σ.2.1 ∧ KeepB HB σ.2.2 1) (fun σ : Nat × List Nat × Heap => d + 1 - (c + σ.1)) ((0, L, HB)) ?_ ?_ ?_ ?_
    · exact ⟨by dsimp only; omega, by dsimp only; rw [List.range_zero, List.map_nil, List.append_nil], vb, KeepB.refl _ _⟩
    · (repeat' first | exact envLe_nil | apply envLe_any | apply envLe_same)
    · rfl
    rintro ⟨m, L1, H3⟩ hinv ih
    dsimp only at hinv ih ⊢
    obtain ⟨m1, m2, m3, m4⟩ := hinv
    have hll := congrArg List.length m2
    rw [List.length_append, List.length_map, List.length_range] at hll
    refine ARun.seq (ARun.seq (ARun.region ?_)); refine zzm ?_; refine zzm ?_
    refine y_op rfl (q_conv rfl rfl rfl (nconv_i64 (by omega))) ?_
    refine zzi ?_; refine AOps.nil ?_
    refine ARun.ite rfl (fun f => ?_) (fun f => ?_)
    · skip
      have f : c + m ≤ d := by omega
      refine ARun.skip (ARun.seq (ARun.block (ARun.region ?_))); refine zzm ?_
      refine y_op rfl (q_conv rfl rfl rfl (show _ = ((c + m : Nat) : Int) by rw [IntKind.wrap_u8]; omega)) ?_
      refine Zad rfl rfl rfl rfl (Za1 H3 1 L1 m3 (c + m) (by omega)) ?_ (by rintro _ _ ⟨h, _⟩; cases h)
      rintro q1 H4 ⟨e1, b4, k4⟩
      injection e1 with e1
      subst e1
      refine AOps.nil (ARun.inBlock (ARun.region ?_)); refine zzm ?_
      refine y_op rfl (OpQ.cast (d' := .int .i64 ((c + (m + 1) : Nat) : Int)) (q_int rfl rfl rfl) (congrArg (D.int .i64) (by show IntKind.i64.wrap _ = _; rw [IntWalk.i64_in _ (by omega)]; omega))) ?_
      refine zza ?_; refine AOps.nil ?_
      refine ARun.again (ih ((m + 1, L1 ++ [c + m], H4)) ?_ ?_) ?_ ?_
      · exact ⟨by dsimp only; omega, by dsimp only; rw [m2, List.range_succ, List.map_append, List.append_assoc]; rfl, b4, m4.trans k4⟩
      · (dsimp only; omega)
      · (repeat' first | exact envLe_nil | apply envLe_any | apply envLe_same)
      rfl
    obtain rfl : m = d + 1 - c := by omega
    rw [← hwr] at m2
    subst m2
    refine ARun.exit rfl ?_
    refine ARun.inBlock ?_
    refine ARun.nil ⟨rfl, rfl, ?_⟩
    exact fin _ _ m3 m4
  · rintro q2 H2 ⟨h, hb, w0, w1, w2⟩
    injection h with h
    subst h
    refine ⟨.ready, w2, ?_⟩
    have b2 := hb.set (x := none) w2 (by omega) ne0
    have v0 : (H2.set (H1.length + 1) none)[0]? = some (setO T) := by rw [List.getElem?_set_ne (by omega)]; exact w0
    have v1 : (H2.set (H1.length + 1) none)[H1.length]? = some defsO := by rw [List.getElem?_set_ne (by omega)]; exact w1
    clear hb w0 w1 w2 b1 g1 l1
    obtain ⟨G, hG⟩ : ∃ G, G = H2.set (H1.length + 1) none := ⟨_, rfl⟩
    rw [← hG] at b2 v0 v1 ⊢
    clear hG
    obtain ⟨P2, hP2⟩ : ∃ P2, P2 = P1 ++ rtx T 1 := ⟨_, rfl⟩
    rw [← List.append_assoc, ← hP2] at r1
    rw [← hP2] at b2
    clear hP2
    have hl2 : P2.length ≤ 300 := by
      have := congrArg (fun x => x.1.length) r1
      simp only [List.length_append] at this
      omega
    refine ARun.inBlock (ARun.seq (ARun.seq (ARun.region ?_)))
    refine y_op rfl (Zah rfl rfl rfl v0 rfl rfl) ?_
    refine zzc rfl rfl (ZbQ T 94 (by decide)) ?_
    refine AOps.nil ?_
    refine ARun.joinH (S := List Nat × Heap) (fun σ : List Nat × Heap => [(70, .any)]) (fun σ : List Nat × Heap => σ.2) (fun σ : List Nat × Heap => BldS σ.2 1 σ.1 ∧ σ.2[0]? = some (setO T) ∧ σ.2[H1.length]? = some defsO ∧ R = (σ.1 ++ pre1 (T 45) 45, 0)) (fun run => ?_) ?_
    · skip
      refine ARun.cond rfl (fun y => ?_) (fun y => ?_)
      · skip
        rw [y] at r1
        refine ARun.region ?_
        refine Zad rfl rfl rfl rfl (Za1 G 1 P2 b2 94 (by omega)) ?_ (by rintro _ _ ⟨h, _⟩; cases h)
        rintro q1 H3 ⟨e1, b3, k3⟩
        injection e1 with e1
        subst e1
        refine AOps.nil ?_
        exact ARun.ag (run ((P2 ++ [94], H3)) (⟨b3, k3.2 0 _ v0 (by decide) ne28, k3.2 _ _ v1 (by omega) ne0, (by rw [List.append_assoc]; exact r1)⟩))
      rw [y] at r1
      refine ARun.skip ?_
      exact ARun.ag (run ((P2, G)) (⟨b2, v0, v1, r1⟩))
    rintro ⟨P3, H3⟩ hj
    try dsimp only at hj ⊢
    clear b2 v0 v1 r1 hl2
    obtain ⟨b3, v0, v1, r1⟩ := hj
    have hl3 : P3.length ≤ 300 := by
      have := congrArg (fun x => x.1.length) r1
      simp only [List.length_append] at this
      omega
    refine ARun.seq (ARun.seq (ARun.region ?_))
    refine y_op rfl (Zbt rfl rfl rfl rfl (by omega) (by omega) rfl) ?_
    refine y_op rfl (Zaa rfl rfl rfl v0 rfl) ?_
    refine y_op rfl (ZbW rfl rfl rfl rfl (by omega) (by omega) rfl) ?_
    refine zzl ?_
    refine y_op rfl (OpQ.cast (d' := .int .u64 ((sw T 0 &&& sw sDash 0 : Nat) : Int)) (q_int rfl rfl rfl) (congrArg (D.int .u64) (land_u64 (sw_lt _ _) (sw_lt _ _)))) ?_
    refine y_op rfl (OpQ.cast (d' := .bool (T 45)) (q_int rfl rfl rfl) (congrArg D.bool (word_dash T))) ?_
    refine AOps.nil ?_
    refine ARun.joinH (S := List Nat × Heap) (fun σ : List Nat × Heap => [(77, .any)]) (fun σ : List Nat × Heap => σ.2) (fun σ : List Nat × Heap => BldS σ.2 1 σ.1 ∧ σ.2[H1.length]? = some defsO ∧ R = (σ.1, 0)) (fun run => ?_) ?_
    · skip
      refine ARun.cond rfl (fun y => ?_) (fun y => ?_)
      · skip
        rw [y] at r1
        refine ARun.region ?_
        refine Zad rfl rfl rfl rfl (Za1 H3 1 P3 b3 45 (by omega)) ?_ (by rintro _ _ ⟨h, _⟩; cases h)
        rintro q1 H4 ⟨e1, b4, k4⟩
        injection e1 with e1
        subst e1
        refine AOps.nil ?_
        exact ARun.ag (run ((P3 ++ [45], H4)) (⟨b4, k4.2 _ _ v1 (by omega) ne0, r1⟩))
      rw [y] at r1
      refine ARun.skip ?_
      exact ARun.ag (run ((P3, H3)) (⟨b3, v1, (by rw [r1]; show (P3 ++ [], _) = _; rw [List.append_nil])⟩))
    rintro ⟨P4, H4⟩ hj
    try dsimp only at hj ⊢
    clear b3 v0 v1 r1 hl3
    obtain ⟨b4, v1, r1⟩ := hj
    subst r1
    refine ARun.seq (ARun.region ?_)
    refine Zad rfl rfl rfl rfl (Ze8 H4 1 P4 b4 hRlt (by show P4.length ≤ _; have : P4.length ≤ 300 := hRlen; omega)) ?_ (by rintro _ _ ⟨h, _⟩; cases h)
    rintro q1 H5 ⟨e1, k5⟩
    injection e1 with e1
    subst e1
    have v5 := k5.2 _ _ v1 (by omega) ne0
    refine zza ?_; refine zza ?_; refine AOps.nil ?_
    refine ARun.ret ?_
    exact ⟨⟨_, v5, rfl, rfl⟩, _, _, _, .tmp rfl (.tmp rfl .nil), .cons (.same _) (.cons (.same _) .nil), rfl, rfl⟩
  rintro q2 H2 ⟨h, _⟩
  cases h
end Go.V
