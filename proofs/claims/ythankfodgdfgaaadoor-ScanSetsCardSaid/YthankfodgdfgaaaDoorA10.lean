/- A part of the proof: abstract values, rules for the steps of the program's form, and contracts of its functions, each proved; no condition. -/
import Derived.Test.YthankfodgdfgaaaDoorA09
set_option linter.unusedVariables false
set_option linter.unusedSimpArgs false
set_option linter.unnecessarySimpa false
set_option maxHeartbeats 8000000
set_option maxRecDepth 100000
set_option synthInstance.maxSize 100000
set_option synthInstance.maxHeartbeats 2000000
namespace Go.V
open Go.RowKit Go.Proofs
/-! HOW A SET IS WRITTEN. -/
abbrev sCar : Nat → Bool := swith sempty 94
abbrev sDash : Nat → Bool := swith sempty 45
abbrev sBoth : Nat → Bool := swith sCar 45
theorem ssize_congr {S T : Nat → Bool} (h : ∀ c, c < 256 → S c = T c) : ssize S 256 = ssize T 256 := by
  rw [ssize_cnt, ssize_cnt]
  exact Nat.le_antisymm (cnt_le 0 fun x _ hx => by rw [h x hx]; exact Nat.le_refl _) (cnt_le 0 fun x _ hx => by rw [h x hx]; exact Nat.le_refl _)
theorem sBoth_at (c : Nat) : sBoth c = (decide (c = 94) || decide (c = 45)) := rfl
theorem sCar_at (c : Nat) : sCar c = decide (c = 94) := rfl
theorem cnt_ind (a : Nat) (h : a < 256) : cnt (fun y => b2n (decide (y = a))) 0 = 1 := by
  rw [cnt_one (a := a) 0 (Nat.zero_le _) h (fun y _ _ hne => by unfold b2n; rw [decide_eq_false hne]; rfl), decide_eq_true rfl]; rfl
theorem ssize_car : ssize sCar 256 = 1 := by rw [ssize_cnt]; exact cnt_ind 94 (by decide)
theorem ssize_both : ssize sBoth 256 = 2 := by
  have e : cnt (fun y => b2n (decide (y = 94)) + b2n (decide (y = 45))) 0 = 2 := by rw [cnt_add, cnt_ind 94 (by decide), cnt_ind 45 (by decide)]
  rw [ssize_cnt, ← e]
  have : ∀ y, b2n (sBoth y) = b2n (decide (y = 94)) + b2n (decide (y = 45)) := fun y => by
    rw [sBoth_at]
    by_cases h1 : y = 94
    · subst h1; rfl
    rw [decide_eq_false h1]; unfold b2n; simp
  simp only [this]
theorem sEq_car {S : Nat → Bool} : sEq S sCar = (decide (ssize S 256 = 1) && S 94) := by
  rw [Bool.eq_iff_iff, sEq_ext, Bool.and_eq_true, decide_eq_true_eq]
  constructor
  · intro h
    exact ⟨(ssize_congr h).trans ssize_car, (h 94 (by decide)).trans rfl⟩
  rintro ⟨h1, h2⟩ c hc
  rw [sCar_at]
  by_cases e : c = 94
  · subst e; rw [h2]; rfl
  rw [decide_eq_false e]; exact one_of h1 (by decide) h2 hc e
theorem two_of {S : Nat → Bool} (h : ssize S 256 = 2) {a b x : Nat} (ha : a < 256) (hb : b < 256) (hab : a ≠ b) (hS : S a = true) (hT : S b = true) (h2 : x < 256) (hxa : x ≠ a) (hxb : x ≠ b) : S x = false := by
  cases g : S x
  · rfl
  have : cnt (fun y => b2n (decide (y = x)) + (b2n (decide (y = a)) + b2n (decide (y = b)))) 0 ≤ cnt (fun x => b2n (S x)) 0 := cnt_le 0 fun y _ _ => by
    by_cases e : y = x
    · subst e; rw [decide_eq_false hxa, decide_eq_false hxb, decide_eq_true rfl, g]; exact Nat.le_refl 1
    rw [decide_eq_false e]
    by_cases e2 : y = a
    · subst e2; rw [decide_eq_false hab, decide_eq_true rfl, hS]; exact Nat.le_refl 1
    rw [decide_eq_false e2]
    by_cases e3 : y = b
    · subst e3; rw [decide_eq_true rfl, hT]; exact Nat.le_refl 1
    rw [decide_eq_false e3]; exact Nat.zero_le _
  rw [cnt_add, cnt_add, cnt_ind x h2, cnt_ind a ha, cnt_ind b hb, ← ssize_cnt] at this
  omega
theorem sEq_both {S : Nat → Bool} : sEq S sBoth = ((decide (ssize S 256 = 2) && S 94) && S 45) := by
  rw [Bool.eq_iff_iff, sEq_ext, Bool.and_eq_true, Bool.and_eq_true, decide_eq_true_eq]
  constructor
  · intro h
    exact ⟨⟨(ssize_congr h).trans ssize_both, (h 94 (by decide)).trans rfl⟩, (h 45 (by decide)).trans rfl⟩
  rintro ⟨⟨h1, h2⟩, h3⟩ c hc
  rw [sBoth_at]
  by_cases e : c = 94
  · subst e; rw [h2]; rfl
  by_cases e2 : c = 45
  · subst e2; rw [h3]; rfl
  rw [decide_eq_false e, decide_eq_false e2]
  exact two_of h1 (by decide) (by decide) (by decide) h2 h3 hc e e2
theorem ssize_255 {S : Nat → Bool} (h0 : S 0 = false) : ssize S 256 ≤ 255 := by have := ssize_other h0; omega
theorem neg_alt {n : Nat} {b q : Bool} (hn : n ≤ 255) (hq : q = (decide (n = 1) && b)) : (!(((decide (1 ≤ n) && decide (n ≤ 127)) && !q) || decide (n = 255))) = setNeg n b := by
  subst hq
  unfold setNeg
  by_cases h0 : n = 0
  · subst h0; cases b <;> rfl
  by_cases h1 : n = 1
  · subst h1; cases b <;> rfl
  rw [decide_eq_false h0, decide_eq_false h1, decide_eq_true (show 1 ≤ n by omega), Bool.false_and, Bool.false_or, Bool.or_false, Bool.true_and, Bool.not_false, Bool.and_true]
  by_cases h2 : n ≤ 127
  · rw [decide_eq_true h2, decide_eq_false (show ¬ 127 < n by omega)]; rfl
  rw [decide_eq_false h2, decide_eq_true (show 127 < n by omega), Bool.false_or, Bool.true_and, ← decide_not]
  exact decide_eq_decide.2 (by omega)
theorem word_dash (T : Nat → Bool) : (((sw T 0 &&& sw sDash 0 : Nat) : Int) != 0) = T 45 := by
  have hd : sw sDash 0 = 2 ^ 45 := (sw_ext (by decide) fun j hj => by
    rw [Nat.testBit_two_pow]
    unfold sDash swith sempty
    rw [Bool.false_or]
    exact decide_eq_decide.2 (by omega)).symm
  rw [hd]
  have hb : (sw T 0).testBit 45 = T 45 := sw_bit T 0 (by decide)
  rw [← hb]
  have ht : (sw T 0 &&& 2 ^ 45).testBit 45 = (sw T 0).testBit 45 := by rw [Nat.testBit_and, Nat.testBit_two_pow_self, Bool.and_true]
  cases e : (sw T 0).testBit 45
  · have h0 : sw T 0 &&& 2 ^ 45 = 0 := Nat.eq_of_testBit_eq fun i => by
      rw [Nat.testBit_and, Nat.testBit_two_pow, Nat.zero_testBit]
      by_cases hi : 45 = i
      · subst hi; rw [e]; rfl
      rw [decide_eq_false hi, Bool.and_false]
    rw [h0]; rfl
  rw [e] at ht
  have hne : sw T 0 &&& 2 ^ 45 ≠ 0 := fun h => by rw [h, Nat.zero_testBit] at ht; cases ht
  rw [bne_iff_ne]
  omega
theorem setBody_lt (T : Nat → Bool) : ∀ x ∈ setBody T, x < 256 := by
  unfold setBody
  intro x hx
  have hp : ∀ b c, c < 256 → x ∈ pre1 b c → x < 256 := fun b c hc h => by
    cases b
    · cases h
    have h : x ∈ [c] := h
    rw [List.mem_singleton] at h; omega
  rw [List.mem_append, List.mem_append, List.mem_append] at hx
  rcases hx with h | h | h | h
  · exact hp _ 93 (by decide) h
  · exact rtx_lt T 1 x h
  · exact hp _ 94 (by decide) h
  exact hp _ 45 (by decide) h
theorem setTx_lt (S : Nat → Bool) : ∀ x ∈ (setTx S).1, x < 256 := by
  unfold setTx
  cases S 0
  · rw [cond_false]
    cases setNeg (ssize S 256) (S 94)
    · rw [cond_false]
      cases (decide (ssize S 256 = 2) && S 94) && S 45
      · exact setBody_lt S
      intro x hx
      have hx : x ∈ [45, 94] := hx
      simp only [List.mem_cons, List.not_mem_nil, or_false] at hx; omega
    intro x hx
    have hx : x ∈ 94 :: setBody (sother S) := hx
    rw [List.mem_cons] at hx
    exact hx.elim (fun e => by omega) (setBody_lt _ x)
  intro x hx; cases hx
theorem BldS.set {H : Heap} {k j : Nat} {L : List Nat} {o : AObj} {x : Option AObj} (h : BldS H k L) (hj : H[j]? = some (some o)) (hne : j ≠ k) (he : o.elem ≠ ZaK) : BldS (H.set j x) k L :=
  h.keep fun i y hy hc => by
    rcases hc with hc | rfl
    · have : j ≠ i := by rintro rfl; rw [hj] at hy; injection hy with hy; injection hy with hy; subst hy; exact he hc
      rw [List.getElem?_set_ne this]; exact hy
    rw [List.getElem?_set_ne hne]; exact hy
theorem BldS.app {H M : Heap} {k : Nat} {L : List Nat} (h : BldS H k L) : BldS (H ++ M) k L :=
  h.keep fun i y hy _ => by rw [List.getElem?_append_left (List.getElem?_eq_some_iff.1 hy).1]; exact hy
theorem get_app {H M : Heap} {i : Nat} {x : Option AObj} (h : H[i]? = some x) : (H ++ M)[i]? = some x := by
  rw [List.getElem?_append_left (List.getElem?_eq_some_iff.1 h).1]; exact h
theorem Zhh {env : List D} {H : Heap} {dst : Option Tmp} {x y : Operand} {ty T' : TypeId} {pos : String} {aft : Array Edge} {gd : Option (Nat × Bool)} {S T : Nat → Bool} (hx : evO C env x = some (setD S)) (hy : evO C env y = some (setD T)) :
    OpQ C ⟨dst, .binOp .neq Zac x y T', ty, pos, aft, gd⟩ env H (.bool (!sEq S T)) :=
  Zhg (m := 2) (f := 2) (by kernel_rfl) (by decide) (by kernel_rfl) hx hy rfl rfl rfl rfl (set_lits (sw_lt S 0) (sw_lt S 1) (sw_lt S 2) (sw_lt S 3)) (set_lits (sw_lt T 0) (sw_lt T 1) (sw_lt T 2) (sw_lt T 3)) (by
    unfold sEq
    rw [decide_eq_true_eq]
    simp only [List.cons.injEq, Lit.int.injEq, true_and, and_true, Int.ofNat_inj])
abbrev setO (T : Nat → Bool) : Option AObj := some ⟨swL T, Zac, 1, true, none⟩
end Go.V
set_option maxHeartbeats 8000000
set_option maxRecDepth 100000
set_option synthInstance.maxSize 100000
set_option synthInstance.maxHeartbeats 2000000
namespace Go.V
open Go.RowKit Go.Proofs
theorem ne28 : Zac ≠ ZaK := by decide
theorem ne0 : (0 : TypeId) ≠ ZaK := by decide
theorem get_last {A : Heap} {x : Option AObj} {n : Nat} (h : n = A.length) : (A ++ [x])[n]? = some x := by
  subst h; rw [List.getElem?_append_right (Nat.le_refl _)]; simp
theorem rnd_in {H : Heap} {n : Nat} {ps : Array Tmp} {asg bd : Code} {env : List D} {L : List Nat} {T : Nat → Bool} (hn : 2 ≤ n) (wb : BldS H 1 L) (w0 : H[0]? = some (setO T)) (w1 : H[n]? = some defsO) (w2 : H[n + 1]? = some (loopO .ready ps asg bd env)) :
    ∃ HB, HB = H.set (n + 1) (loopO .busy ps asg bd env) ∧ BldS HB 1 L ∧ ∀ (H2 : Heap) (M : List Nat), BldS H2 1 M → KeepB HB H2 1 →
      H2[n + 1]? = some (loopO .busy ps asg bd env) ∧ BldS (H2.set (n + 1) (loopO .ready ps asg bd env)) 1 M ∧ (H2.set (n + 1) (loopO .ready ps asg bd env))[0]? = some (setO T) ∧ (H2.set (n + 1) (loopO .ready ps asg bd env))[n]? = some defsO ∧ (H2.set (n + 1) (loopO .ready ps asg bd env))[n + 1]? = some (loopO .ready ps asg bd env) := by
  refine ⟨_, rfl, wb.set w2 (by omega) ne0, fun H2 M hb hk => ?_⟩
  have z2 := hk.2 _ _ (heap_set_get (y := loopO .busy ps asg bd env) w2) (by omega) ne0
  have z0 := hk.2 0 _ (by rw [List.getElem?_set_ne (by omega)]; exact w0) (by decide) ne28
  have z1 := hk.2 n _ (by rw [List.getElem?_set_ne (by omega)]; exact w1) (by omega) ne0
  exact ⟨z2, hb.set z2 (by omega) ne0, by rw [List.getElem?_set_ne (by omega)]; exact z0, by rw [List.getElem?_set_ne (by omega)]; exact z1, heap_set_get z2⟩
theorem BldS.two {H : Heap} {L : List Nat} (h : BldS H 1 L) : 2 ≤ H.length := by
  obtain ⟨p, d, _, hk, _⟩ := h
  exact (List.getElem?_eq_some_iff.1 hk).1
theorem ZcL (S : Nat → Bool) : PC C ZbF [setD S] (fun o => o = .ret (.tup [.str (bytesOf (setTx S).1), .int .i64 (setTx S).2])) := by
  obtain ⟨R, hR⟩ : ∃ R, R = setTx S := ⟨_, rfl⟩
  have hRlt : ∀ x ∈ R.1, x < 256 := by rw [hR]; exact setTx_lt S
  have hRlen : R.1.length ≤ 300 := by rw [hR]; exact setTx_len S
  rw [← hR]
  unfold setTx at hR
  have hn5 := fun h => ssize_255 (S := S) h
  have hcar := sEq_car (S := S)
  have hboth := sEq_both (S := S)
  have hsz := Zgs S
  generalize ssize S 256 = n at *
  refine PC.rn Zbw Zc6 Zc7 (rs := [.tmp 2, .tmp 3]) (by rw [Zc8]) ?_
  refine ARun.seq (ARun.region ?_)
  refine y_new rfl (n_box rfl rfl rfl) ?_
  refine zza ?_; refine zza ?_; refine AOps.nil (ARun.seq (ARun.seq (ARun.region ?_)))
  refine y_op rfl (Zab rfl rfl rfl rfl rfl rfl) ?_
  refine zzc rfl rfl (Zbr S 0 (by decide)) ?_
  refine AOps.nil ?_
  refine ARun.cond rfl (fun h0 => ?_) (fun h0 => ?_)
  · skip
    rw [h0, cond_true] at hR
    subst hR
    refine ARun.seq (ARun.region ?_); refine zza ?_; refine zza ?_; refine AOps.nil ?_
    refine ARun.ret ?_
    refine ⟨_, _, _, .tmp rfl (.tmp rfl .nil), .cons (.same _) (.cons (.same _) .nil), rfl, ?_⟩
    rfl
  rw [h0, cond_false] at hR
  have hn5 := hn5 h0
  refine ARun.skip (ARun.seq (ARun.region ?_))
  refine y_op rfl (Zab rfl rfl rfl rfl rfl rfl) ?_
  refine zzc rfl rfl (hsz) ?_
  refine zza ?_; refine AOps.nil (ARun.seq (ARun.region ?_))
  refine y_op rfl (OpQ.cast (d' := setD sempty) (Zbd rfl rfl rfl) (by show D.agg [_, _, _, _] = D.agg (swL sempty); rw [swL_empty])) ?_
  refine zzc rfl rfl (Zdv sempty 94 (by decide)) ?_
  refine y_op rfl (OpQ.cast (d' := setD sempty) (Zbd rfl rfl rfl) (by show D.agg [_, _, _, _] = D.agg (swL sempty); rw [swL_empty])) ?_
  refine zzc rfl rfl (Zdv sempty 45 (by decide)) ?_
  refine Zgp (alW rfl rfl rfl rfl rfl rfl rfl rfl rfl rfl rfl) (alW rfl rfl rfl rfl rfl rfl rfl rfl rfl rfl rfl) rfl ?_
  refine AOps.nil (ARun.seq (ARun.seq ?_))
  refine ARun.drawnP 4 (fun _ => False) mixC rfl rfl (by kernel_rfl) (fun _ _ h => h.elim) ?_
  refine .op rfl (Zab rfl rfl rfl rfl rfl rfl) ?_
  refine .op rfl (Zbg rfl rfl rfl rfl rfl) ?_
  refine .op rfl (q_call rfl rfl (Zdv sCar 45 (by decide))) ?_
  refine .op rfl (Zhf rfl rfl) ?_
  refine .nil (fun hG => ?_)
  refine AOps.nil ?_
  refine ARun.cond rfl (fun d => ?_) (fun d => ?_)
  · skip
    rw [d] at hboth
    have hng : setNeg n (S 94) = false := by
      have hb := hboth.symm
      rw [Bool.and_eq_true, Bool.and_eq_true, decide_eq_true_eq] at hb
      obtain ⟨⟨rfl, _⟩, _⟩ := hb
      unfold setNeg; cases S 94 <;> rfl
    rw [hng, cond_false, ← hboth, cond_true] at hR
    subst hR
    refine ARun.seq (ARun.region ?_); refine zza ?_; refine zza ?_; refine AOps.nil ?_
    refine ARun.ret ?_
    refine ⟨_, _, _, .tmp rfl (.tmp rfl .nil), .cons (.same _) (.cons (.same _) .nil), rfl, ?_⟩
    rfl
  rw [d] at hboth
  rw [← hboth, cond_false] at hR
  refine ARun.skip (ARun.seq (ARun.region ?_))
  refine y_new rfl (ZaS rfl rfl rfl rfl) ?_
  refine AOps.nil (ARun.seq (ARun.seq (ARun.region ?_))); refine zzm ?_
  refine y_op rfl (OpQ.cast (d' := .bool (decide (1 ≤ n))) (q_int rfl rfl rfl) (congrArg D.bool (decide_eq_decide.2 (by omega)))) ?_
  refine zzm ?_
  apply AOps.andJ 25 (fun sj1 => [(25, .any), (26, .any), (27, .any), (28, .bool sj1)]) rfl
  · intro hj1 run1
    try replace hj1 := of_decide_eq_true hj1
    refine zzm ?_
    refine y_op rfl (OpQ.cast (d' := .bool (decide (n ≤ 127))) (q_int rfl rfl rfl) (congrArg D.bool (decide_eq_decide.2 (by omega)))) ?_
    refine zzp ?_
    exact AOps.ag run1
  · intro hj1 run1
    try replace hj1 := of_decide_eq_false hj1
    refine zzk ?_; refine zzk ?_; refine zzp ?_
    exact AOps.ag run1
  refine zzm ?_
  apply AOps.andJ 29 (fun sj2 => [(29, .any), (30, .any), (31, .any), (32, .any), (33, .bool sj2)]) rfl
  · intro hj2 run2
    try replace hj2 := of_decide_eq_true hj2
    refine y_op rfl (Zab rfl rfl rfl rfl rfl rfl) ?_
    refine zzL ?_
    refine y_op rfl (Zhh rfl rfl) ?_
    refine zzp ?_
    exact AOps.ag run2
  · intro hj2 run2
    try replace hj2 := of_decide_eq_false hj2
    refine zzk ?_; refine zzk ?_; refine zzk ?_; refine zzp ?_
    exact AOps.ag run2
  refine zzm ?_
  apply AOps.orJ 34 (fun sj3 => [(34, .any), (35, .any), (36, .any), (37, .bool sj3)]) rfl
  · intro hj3 run3
    try replace hj3 := of_decide_eq_true hj3
    refine zzk ?_; refine zzk ?_; refine zzp ?_
    exact AOps.ag run3
  · intro hj3 run3
    try replace hj3 := of_decide_eq_false hj3
    refine zzm ?_
    refine y_op rfl (OpQ.cast (d' := .bool (decide (n = 255))) (q_int rfl rfl rfl) (congrArg D.bool (decide_eq_decide.2 (by omega)))) ?_
    refine zzp ?_
    exact AOps.ag run3
  refine y_op rfl (OpQ.cast (q_not rfl) (congrArg D.bool (neg_alt (n := n) (b := S 94) hn5 hcar))) ?_
  refine AOps.nil ?_
  generalize setNeg n (S 94) = ng at *
  refine ARun.joinH (S := List Nat × (Nat → Bool) × Heap) (fun σ : List Nat × (Nat → Bool) × Heap => [(39, .any), (40, .any), (41, .any)]) (fun σ : List Nat × (Nat → Bool) × Heap => σ.2.2) (fun σ : List Nat × (Nat → Bool) × Heap => BldS σ.2.2 1 σ.1 ∧ σ.2.2[0]? = some (setO σ.2.1) ∧ R = (σ.1 ++ setBody σ.2.1, 0) ∧ σ.1.length ≤ 1) (fun run => ?_) ?_
  · skip
    refine ARun.cond rfl (fun y => ?_) (fun y => ?_)
    · skip
      rw [y, cond_true] at hR
      refine ARun.seq (ARun.region ?_)
      refine Zaf rfl rfl rfl rfl (Za2 [setO S, bldO .nilptr .nilsl] 1 [] (.new rfl) 94 (by decide)) ?_ (by rintro _ _ ⟨h, _⟩; cases h)
      rintro q1 H1 ⟨e1, b1, k1⟩
      injection e1 with e1
      subst e1
      have g1 := k1.2 0 _ rfl (by decide) ne28
      refine AOps.nil (ARun.region ?_)
      refine y_op rfl (Zab rfl rfl rfl g1 rfl rfl) ?_
      refine zzc rfl rfl (ZeH S) ?_
      refine y_new rfl (Zah rfl rfl rfl rfl rfl rfl g1 rfl (Nat.le_of_ble_eq_true rfl) rfl) ?_
      refine AOps.nil ?_
      exact ARun.ag (run (([94], sother S, H1.set 0 (setO (sother S)))) (⟨b1.set g1 (by decide) ne28, heap_set_get g1, hR, Nat.le_refl 1⟩))
    rw [y, cond_false] at hR
    refine ARun.skip ?_
    exact ARun.ag (run (([], S, [setO S, bldO .nilptr .nilsl])) (⟨.new rfl, rfl, hR, Nat.zero_le 1⟩))
  rintro ⟨P, T, H⟩ hj
  try dsimp only at hj ⊢
  obtain ⟨b1, g1, r1, l1⟩ := hj
  clear hR hboth hcar hsz h0 d hn5
  refine ARun.seq (ARun.seq (ARun.region ?_))
  refine y_op rfl (Zab rfl rfl rfl g1 rfl rfl) ?_
  refine zzc rfl rfl (Zbr T 93 (by decide)) ?_
  refine AOps.nil ?_
  refine ARun.joinH (S := List Nat × Heap) (fun σ : List Nat × Heap => [(44, .any)]) (fun σ : List Nat × Heap => σ.2) (fun σ : List Nat × Heap => BldS σ.2 1 σ.1 ∧ σ.2[0]? = some (setO T) ∧ R = (σ.1 ++ (rtx T 1 ++ (pre1 (T 94) 94 ++ pre1 (T 45) 45)), 0) ∧ σ.1.length ≤ 2) (fun run => ?_) ?_
  · skip
    unfold setBody at r1
    refine ARun.cond rfl (fun y => ?_) (fun y => ?_)
    · skip
      rw [y] at r1
      refine ARun.region ?_
      refine Zaf rfl rfl rfl rfl (Za2 H 1 P b1 93 (by omega)) ?_ (by rintro _ _ ⟨h, _⟩; cases h)
      rintro q1 H1 ⟨e1, b2, k2⟩
      injection e1 with e1
      subst e1
      refine AOps.nil ?_
      exact ARun.ag (run ((P ++ [93], H1)) (⟨b2, k2.2 0 _ g1 (by decide) ne28, (by rw [List.append_assoc]; exact r1), (by rw [List.length_append]; exact Nat.succ_le_succ l1)⟩))
    rw [y] at r1
    refine ARun.skip ?_
    exact ARun.ag (run ((P, H)) (⟨b1, g1, r1, Nat.le_succ_of_le l1⟩))
  rintro ⟨P1, H1⟩ hj
  try dsimp only at hj ⊢
  clear b1 g1 r1 l1
  obtain ⟨b1, g1, r1, l1⟩ := hj
  refine ARun.seq (ARun.seq (ARun.region ?_))
  refine y_op rfl (Zab rfl rfl rfl g1 rfl rfl) ?_
  refine zzc rfl rfl (Zgx T) ?_
  refine AOps.nil (ARun.block ?_)
  have hn2 := b1.two
  refine ARun.rangeFn (n := H1.length) rfl rfl rfl (ZgU T _ (H1.length + 1) [47, 48] rfl _ _ _ (fun L H' => BldS H' 1 L ∧ H'[0]? = some (setO T) ∧ H'[H1.length]? = some defsO ∧ H'[H1.length + 1]? = some (loopO .ready _ _ _ _)) P1 (fun L H' h => h.2.2.2) (fun c d L H' hw hc hcd hd hL => ?_) ⟨(b1.app).app, get_app (get_app g1), get_app (get_last rfl), get_last (by simp)⟩) ?_ ?_
  · skip
    refine ARun.env0 (by simp only [setL, List.zip_cons_cons, List.zip_nil_right, List.set_cons_succ, List.set_cons_zero]; exact rfl) ?_
    obtain ⟨wb, w0, w1, w2⟩ := hw
    obtain ⟨HB, eB, vb, fin⟩ := rnd_in hn2 wb w0 w1 w2
    refine ARun.seq (ARun.region ?_); refine zza ?_; refine AOps.nil (ARun.region ?_); refine zza ?_; refine AOps.nil ?_
    refine ARun.beginRoundI rfl (w2) ?_
    refine ARun.block (ARun.seq (ARun.seq (ARun.region ?_))); refine zzm ?_; refine zzm ?_
    refine y_op rfl (OpQ.cast (d' := .int .u8 ((d - c : Nat) : Int)) (q_int rfl rfl rfl) (congrArg (D.int .u8) (by show IntKind.u8.wrap _ = _; rw [IntKind.wrap_u8]; omega))) ?_
    refine zzi ?_
    rw [← eB]
    refine AOps.nil ?_
    refine ARun.ite rfl (fun z => ?_) (fun z => ?_)
    · skip
      have z : c + 2 ≤ d := by omega
      have hwr : wr c d = [c, 45, d] := if_pos z
      refine ARun.seq (ARun.region ?_); refine zzm ?_; refine zzm ?_
      refine y_op rfl (ZcM rfl rfl rfl rfl rfl rfl rfl rfl rfl rfl rfl (by decide) (by decide) rfl) ?_
      refine Zaf rfl rfl rfl rfl (ZgR _ 1 L vb [c, 45, d] (Nat.succ_pos _) (by show L.length + 3 ≤ _; omega)) ?_ (by rintro _ _ ⟨h, _⟩; cases h)
      rintro q1 H3 ⟨e1, b3, k3⟩
      injection e1 with e1
      subst e1
      refine AOps.nil ?_
      refine ARun.exit rfl ?_
      refine ARun.nil ⟨rfl, rfl, ?_⟩
      rw [hwr]
      exact fin _ _ b3 k3
    have z : ¬ c + 2 ≤ d := by omega
    have hwr : wr c d = (List.range (d + 1 - c)).map (c + ·) := if_neg z
    refine ARun.skip (ARun.seq (ARun.region ?_)); refine zzm ?_
    refine y_op rfl (q_conv rfl rfl rfl (nconv_i64 (by omega))) ?_
    refine zza ?_; refine AOps.nil (ARun.block ?_)
    refine ARun.loopI (S := Nat × List Nat × Heap) (fun σ : Nat × List Nat × Heap => [(10, .int .i64 ((c + σ.1 : Nat) : Int)), (59, .any), (60, .any), (61, .any), (62, .any), (63, .any), (64, .any), (65, .any), (66, .any), (67, .any)]) (fun σ : Nat × List Nat × Heap => σ.2.2) (fun σ : Nat × List Nat × Heap => c + σ.1 ≤ d + 1 ∧ σ.2.1 = L ++ (List.range σ.1).map (c + ·) ∧ BldS σ.2.2 1 σ.2.1 ∧ KeepB HB σ.2.2 1) (fun σ : Nat × List Nat × Heap => d + 1 - (c + σ.1)) ((0, L, HB)) ?_ ?_ ?_ ?_
    · exact ⟨by dsimp only; omega, by dsimp only; rw [List.range_zero, List.map_nil, List.append_nil], vb, KeepB.refl _ _⟩
    · (repeat' first | exact envLe_nil | apply envLe_any | apply envLe_same)
    · rfl
    rintro ⟨m, L1, H3⟩ hinv ih
    dsimp only at hinv ih ⊢
    obtain ⟨m1, m2, m3, m4⟩ := hinv
    have hll := congrArg List.length m2
    rw [List.length_append, List.length_map, List.length_range] at hll
    refine ARun.seq (ARun.seq (ARun.region ?_)); refine zzm ?_; refine zzm ?_
    refine y_op rfl (q_conv rfl rfl rfl (nconv_i64 (by omega))) ?_
    refine zzi ?_; refine AOps.nil ?_
    refine ARun.ite rfl (fun f => ?_) (fun f => ?_)
    · skip
      have f : c + m ≤ d := by omega
      refine ARun.skip (ARun.seq (ARun.block (ARun.region ?_))); refine zzm ?_
      refine y_op rfl (q_conv rfl rfl rfl (show _ = ((c + m : Nat) : Int) by rw [IntKind.wrap_u8]; omega)) ?_
      refine Zaf rfl rfl rfl rfl (Za2 H3 1 L1 m3 (c + m) (by omega)) ?_ (by rintro _ _ ⟨h, _⟩; cases h)
      rintro q1 H4 ⟨e1, b4, k4⟩
      injection e1 with e1
      subst e1
      refine AOps.nil (ARun.inBlock (ARun.region ?_)); refine zzm ?_
      refine y_op rfl (OpQ.cast (d' := .int .i64 ((c + (m + 1) : Nat) : Int)) (q_int rfl rfl rfl) (congrArg (D.int .i64) (by show IntKind.i64.wrap _ = _; rw [IntWalk.i64_in _ (by omega)]; omega))) ?_
      refine zza ?_; refine AOps.nil ?_
      refine ARun.again (ih ((m + 1, L1 ++ [c + m], H4)) ?_ ?_) ?_ ?_
      · exact ⟨by dsimp only; omega, by dsimp only; rw [m2, List.range_succ, List.map_append, List.append_assoc]; rfl, b4, m4.trans k4⟩
      · (dsimp only; omega)
      · (repeat' first | exact envLe_nil | apply envLe_any | apply envLe_same)
      rfl
    obtain rfl : m = d + 1 - c := by omega
    rw [← hwr] at m2
    subst m2
    refine ARun.exit rfl ?_
    refine ARun.inBlock ?_
    refine ARun.nil ⟨rfl, rfl, ?_⟩
    exact fin _ _ m3 m4
  · rintro q2 H2 ⟨h, hb, w0, w1, w2⟩
    injection h with h
    subst h
    refine ⟨.ready, w2, ?_⟩
    have b2 := hb.set (x := none) w2 (by omega) ne0
    have v0 : (H2.set (H1.length + 1) none)[0]? = some (setO T) := by rw [List.getElem?_set_ne (by omega)]; exact w0
    have v1 : (H2.set (H1.length + 1) none)[H1.length]? = some defsO := by rw [List.getElem?_set_ne (by omega)]; exact w1
    clear hb w0 w1 w2 b1 g1 l1
    obtain ⟨G, hG⟩ : ∃ G, G = H2.set (H1.length + 1) none := ⟨_, rfl⟩
    rw [← hG] at b2 v0 v1 ⊢
    clear hG
    obtain ⟨P2, hP2⟩ : ∃ P2, P2 = P1 ++ rtx T 1 := ⟨_, rfl⟩
    rw [← List.append_assoc, ← hP2] at r1
    rw [← hP2] at b2
    clear hP2
    have hl2 : P2.length ≤ 300 := by
      have := congrArg (fun x => x.1.length) r1
      simp only [List.length_append] at this
      omega
    refine ARun.inBlock (ARun.seq (ARun.seq (ARun.region ?_)))
    refine y_op rfl (Zab rfl rfl rfl v0 rfl rfl) ?_
    refine zzc rfl rfl (Zbr T 94 (by decide)) ?_
    refine AOps.nil ?_
    refine ARun.joinH (S := List Nat × Heap) (fun σ : List Nat × Heap => [(70, .any)]) (fun σ : List Nat × Heap => σ.2) (fun σ : List Nat × Heap => BldS σ.2 1 σ.1 ∧ σ.2[0]? = some (setO T) ∧ σ.2[H1.length]? = some defsO ∧ R = (σ.1 ++ pre1 (T 45) 45, 0)) (fun run => ?_) ?_
    · skip
      refine ARun.cond rfl (fun y => ?_) (fun y => ?_)
      · skip
        rw [y] at r1
        refine ARun.region ?_
        refine Zaf rfl rfl rfl rfl (Za2 G 1 P2 b2 94 (by omega)) ?_ (by rintro _ _ ⟨h, _⟩; cases h)
        rintro q1 H3 ⟨e1, b3, k3⟩
        injection e1 with e1
        subst e1
        refine AOps.nil ?_
        exact ARun.ag (run ((P2 ++ [94], H3)) (⟨b3, k3.2 0 _ v0 (by decide) ne28, k3.2 _ _ v1 (by omega) ne0, (by rw [List.append_assoc]; exact r1)⟩))
      rw [y] at r1
      refine ARun.skip ?_
      exact ARun.ag (run ((P2, G)) (⟨b2, v0, v1, r1⟩))
    rintro ⟨P3, H3⟩ hj
    try dsimp only at hj ⊢
    clear b2 v0 v1 r1 hl2
    obtain ⟨b3, v0, v1, r1⟩ := hj
    have hl3 : P3.length ≤ 300 := by
      have := congrArg (fun x => x.1.length) r1
      simp only [List.length_append] at this
      omega
    refine ARun.seq (ARun.seq (ARun.region ?_))
    refine y_op rfl (Za3 rfl rfl rfl rfl (by omega) (by omega) rfl) ?_
    refine y_op rfl (Zaa rfl rfl rfl v0 rfl) ?_
    refine y_op rfl (Zbs rfl rfl rfl rfl (by omega) (by omega) rfl) ?_
    refine zzl ?_
    refine y_op rfl (OpQ.cast (d' := .int .u64 ((sw T 0 &&& sw sDash 0 : Nat) : Int)) (q_int rfl rfl rfl) (congrArg (D.int .u64) (land_u64 (sw_lt _ _) (sw_lt _ _)))) ?_
    refine y_op rfl (OpQ.cast (d' := .bool (T 45)) (q_int rfl rfl rfl) (congrArg D.bool (word_dash T))) ?_
    refine AOps.nil ?_
    refine ARun.joinH (S := List Nat × Heap) (fun σ : List Nat × Heap => [(77, .any)]) (fun σ : List Nat × Heap => σ.2) (fun σ : List Nat × Heap => BldS σ.2 1 σ.1 ∧ σ.2[H1.length]? = some defsO ∧ R = (σ.1, 0)) (fun run => ?_) ?_
    · skip
      refine ARun.cond rfl (fun y => ?_) (fun y => ?_)
      · skip
        rw [y] at r1
        refine ARun.region ?_
        refine Zaf rfl rfl rfl rfl (Za2 H3 1 P3 b3 45 (by omega)) ?_ (by rintro _ _ ⟨h, _⟩; cases h)
        rintro q1 H4 ⟨e1, b4, k4⟩
        injection e1 with e1
        subst e1
        refine AOps.nil ?_
        exact ARun.ag (run ((P3 ++ [45], H4)) (⟨b4, k4.2 _ _ v1 (by omega) ne0, r1⟩))
      rw [y] at r1
      refine ARun.skip ?_
      exact ARun.ag (run ((P3, H3)) (⟨b3, v1, (by rw [r1]; show (P3 ++ [], _) = _; rw [List.append_nil])⟩))
    rintro ⟨P4, H4⟩ hj
    try dsimp only at hj ⊢
    clear b3 v0 v1 r1 hl3
    obtain ⟨b4, v1, r1⟩ := hj
    subst r1
    refine ARun.seq (ARun.region ?_)
    refine Zaf rfl rfl rfl rfl (Zft H4 1 P4 b4 hRlt (by show P4.length ≤ _; have : P4.length ≤ 300 := hRlen; omega)) ?_ (by rintro _ _ ⟨h, _⟩; cases h)
    rintro q1 H5 ⟨e1, k5⟩
    injection e1 with e1
    subst e1
    have v5 := k5.2 _ _ v1 (by omega) ne0
    refine zza ?_; refine zza ?_; refine AOps.nil ?_
    refine ARun.ret ?_
    exact ⟨⟨_, v5, rfl, rfl⟩, _, _, _, .tmp rfl (.tmp rfl .nil), .cons (.same _) (.cons (.same _) .nil), rfl, rfl⟩
  rintro q2 H2 ⟨h, _⟩
  cases h
end Go.V
set_option maxHeartbeats 8000000
set_option maxRecDepth 100000
set_option synthInstance.maxSize 100000
set_option synthInstance.maxHeartbeats 2000000
namespace Go.V
open Go.RowKit Go.Proofs
/-! GAPS in the numbers of arguments: a map of those that are used. -/
def mapE (ks : List Nat) : List (D × D) := ks.map fun k : Nat => (D.int .i64 (k : Int), D.bool true)
theorem findI_mapE (k : Nat) : ∀ ks : List Nat, findI .i64 (k : Int) (mapE ks) = some (if k ∈ ks then some (.bool true) else none)
  | [] => rfl
  | a :: ks => by
    have ih := findI_mapE k ks
    unfold mapE at ih ⊢
    simp only [List.map_cons, findI, decide_true, cond_true]
    by_cases h : k = a
    · subst h; simp
    rw [show ((k : Int) == (a : Int)) = false by simp; omega, cond_false, ih]
    simp [h]
theorem mapE_len (ks : List Nat) : (mapE ks).length = ks.length := by unfold mapE; rw [List.length_map]
theorem mapE_snoc (ks : List Nat) (k : Nat) : mapE ks ++ [(D.int .i64 (k : Int), D.bool true)] = mapE (ks ++ [k]) := by unfold mapE; rw [List.map_append]; rfl
theorem nodup_len {α : Type} [DecidableEq α] : ∀ (l m : List α), l.Nodup → (∀ x ∈ l, x ∈ m) → l.length ≤ m.length
  | [], m, _, _ => Nat.zero_le _
  | a :: l, m, hn, hs => by
    rw [List.nodup_cons] at hn
    have ha := hs a (by simp)
    have := nodup_len l (m.erase a) hn.2 (fun x hx => (List.mem_erase_of_ne (fun e => hn.1 (by rw [← e]; exact hx))).2 (hs x (List.mem_cons_of_mem _ hx)))
    rw [List.length_erase_of_mem ha] at this
    have := List.length_pos_of_mem ha
    rw [List.length_cons]; omega
theorem sall_iff {l : List Pc} {m : Nat} : ∀ k, sall l m k = true ↔ ∀ j, k ≤ j → j ≤ m → sused l (j : Int) = true := by
  intro k
  rw [sall]
  split
  · rename_i h
    rw [Bool.and_eq_true, sall_iff (k + 1)]
    constructor
    · rintro ⟨a, b⟩ j h1 h2
      rcases Nat.eq_or_lt_of_le h1 with rfl | h3
      · exact a
      exact b j h3 h2
    exact fun h4 => ⟨h4 k (Nat.le_refl _) h, fun j h1 h2 => h4 j (by omega) h2⟩
  exact ⟨fun _ j h1 h2 => by omega, fun _ => rfl⟩
termination_by k => m + 1 - k
theorem gaps_len {l : List Pc} {m : Nat} {ks : List Nat} (hn : ks.Nodup) (hk : ∀ k, k ∈ ks ↔ 1 ≤ k ∧ sused l (k : Int) = true) (hm : ∀ k ∈ ks, k ≤ m) : decide (ks.length < m) = !sall l m 1 := by
  cases h : sall l m 1
  · apply decide_eq_true
    apply Classical.byContradiction
    intro hlen
    have : sall l m 1 = true := (sall_iff 1).2 fun j h1 h2 => Classical.byContradiction fun hu => by
      have hj : j ∉ ks := fun h => hu ((hk j).1 h).2
      have := nodup_len (j :: ks) (List.range' 1 m) (List.nodup_cons.2 ⟨hj, hn⟩) (fun x hx => by
        rw [List.mem_range'_1]
        rcases List.mem_cons.1 hx with rfl | hx
        · omega
        have := hm x hx
        have := ((hk x).1 hx).1
        omega)
      rw [List.length_cons, List.length_range'] at this
      omega
    rw [h] at this; cases this
  apply decide_eq_false
  intro hlen
  have := nodup_len (List.range' 1 m) ks List.nodup_range' (fun x hx => by
    rw [List.mem_range'_1] at hx
    exact (hk x).2 ⟨hx.1, (sall_iff 1).1 h x hx.1 (by omega)⟩)
  rw [List.length_range'] at this
  omega
theorem sused_take {l : List Pc} {i : Nat} (g : i < l.length) (k : Int) : sused (l.take (i + 1)) k = (sused (l.take i) k || decide ((l.getD i pcZ).arg = k)) := by
  unfold sused
  rw [List.take_add_one, List.getElem?_eq_getElem g, List.any_append, List.getD_eq_getElem?_getD, List.getElem?_eq_getElem g]
  simp
theorem ZeJ (l : List Pc) (hl : l.length ≤ 1099511627776) (ha : ∀ p ∈ l, p.arg ≤ 64) : PC C Zes [slP l] (fun o => o = .ret (.tup [.bool (!(sgr l).2), .int .i64 (sgr l).1])) := by
  obtain ⟨M, hM⟩ : ∃ M, M = smost l 0 := ⟨_, rfl⟩
  obtain ⟨R, hR⟩ : ∃ R, R = sall l M.toNat 1 := ⟨_, rfl⟩
  unfold sgr
  rw [← hM, ← hR]
  refine PC.rn Zcp Zd7 Zd8 (rs := [.tmp 2, .tmp 3]) (by rw [Zd9]) ?_
  refine ARun.seq (ARun.region ?_); refine zza ?_; refine zza ?_; refine AOps.nil (ARun.seq (ARun.region ?_)); refine zza ?_; refine AOps.nil (ARun.seq (ARun.region ?_))
  refine y_new rfl (Zgn (kt := t_int) (et := t_bool) (by kernel_rfl) (.inl rfl)) ?_
  refine zza ?_; refine AOps.nil (ARun.seq (ARun.seq (ARun.region ?_))); refine zzm ?_; refine zzN ?_; refine zzm ?_; refine AOps.nil (ARun.block ?_)
  refine ARun.loopI (S := Nat × Nat × List Nat) (fun σ : Nat × Nat × List Nat => [(7, .any), (12, .any), (13, .any), (14, .any), (15, .any), (16, .any), (17, .any), (18, .any), (19, .any), (20, .any), (21, .any), (22, .any), (23, .any), (24, .any), (25, .any), (11, .int .i64 (σ.1 : Int)), (4, .int .i64 (σ.2.1 : Int))]) (fun σ : Nat × Nat × List Nat => [mapO (mapE σ.2.2)]) (fun σ : Nat × Nat × List Nat => σ.1 ≤ l.length ∧ σ.2.1 ≤ 64 ∧ M = smost (l.drop σ.1) (σ.2.1 : Int) ∧ σ.2.2.Nodup ∧ (∀ k, k ∈ σ.2.2 ↔ 1 ≤ k ∧ sused (l.take σ.1) (k : Int) = true) ∧ ∀ k ∈ σ.2.2, k ≤ σ.2.1) (fun σ : Nat × Nat × List Nat => l.length - σ.1) ((0, 0, [])) ?_ ?_ ?_ ?_
  · exact ⟨Nat.zero_le _, Nat.zero_le _, hM, List.nodup_nil, fun k => ⟨fun h => by (cases h), fun h => by (cases h.2)⟩, fun k h => by cases h⟩
  · (repeat' first | exact envLe_nil | apply envLe_any | apply envLe_same)
  · rfl
  rintro ⟨i, m, ks⟩ hinv ih
  dsimp only at hinv ih ⊢
  obtain ⟨i1, i2, i3, i4, i5, i6⟩ := hinv
  refine ARun.seq (ARun.region ?_); refine zzi ?_; refine AOps.nil (ARun.seq ?_)
  refine ARun.ite rfl (fun g => ?_) (fun g => ?_)
  · skip
    have g : i < l.length := by omega
    rw [drop_getD l i pcZ g, smost] at i3
    have hd := pcs_drop l i g
    have hne := pcs_ne g
    have hp : (l.getD i pcZ).arg ≤ 64 := by rw [List.getD_eq_getElem?_getD, List.getElem?_eq_getElem g]; exact ha _ (List.getElem_mem g)
    have hst := sused_take g
    generalize l.getD i pcZ = p at *
    refine ARun.skip (ARun.seq (ARun.block (ARun.seq (ARun.region ?_))))
    refine y_op rfl (Zav rfl rfl rfl rfl (by omega) (by omega) hne hd) ?_
    refine zzL ?_
    refine ZbC rfl rfl rfl rfl rfl rfl rfl rfl rfl rfl rfl ?_
    refine AOps.nil (ARun.seq (ARun.region ?_)); refine zzf ?_; refine zzl ?_; refine zzi ?_; refine AOps.nil ?_
    refine ARun.ite rfl (fun a => ?_) (fun a => ?_)
    · skip
      obtain ⟨k, hk⟩ : ∃ k : Nat, p.arg = (k : Int) := ⟨p.arg.toNat, by omega⟩
      have hk1 : 1 ≤ k := by omega
      have hf := findI_mapE k ks
      by_cases hmem : k ∈ ks
      · rw [if_pos hmem] at hf
        refine ARun.seq (ARun.region ?_); refine zzm ?_; refine zzf ?_; refine zzl ?_
        refine y_new rfl (Zf6 (n := (k : Int)) (kt := t_int) (et := t_bool) (.inr rfl) (by kernel_rfl) (by kernel_rfl) rfl (by rw [← hk]; rfl) rfl rfl hf) ?_
        refine AOps.nil (ARun.region ?_); refine zzm ?_; refine zzf ?_; refine zzl ?_
        refine y_op rfl (q_maxR rfl rfl (show max (m : Int) p.arg = ((max m k : Nat) : Int) by omega)) ?_
        refine zza ?_; refine AOps.nil (ARun.inBlock (ARun.region ?_))
        refine y_op rfl (q_add rfl rfl (nadd1_i64 (by omega))) ?_
        refine zzm ?_; refine AOps.nil ?_
        refine ARun.again (ih ((i + 1, max m k, ks)) ?_ ?_) ?_ ?_
        · exact ⟨g, by dsimp only; omega, by dsimp only; rw [i3]; congr 1; omega, i4, fun j => by (dsimp only; rw [hst, Bool.or_eq_true, decide_eq_true_eq, i5 j]; exact ⟨fun h => ⟨h.1, .inl h.2⟩, fun h => ⟨h.1, h.2.elim id (fun e => by (obtain rfl : k = j := by omega); exact ((i5 k).1 hmem).2)⟩⟩), fun j hj => by (dsimp only; have := i6 j hj; omega)⟩
        · (dsimp only; omega)
        · (repeat' first | exact envLe_nil | apply envLe_any | apply envLe_same)
        rfl
      rw [if_neg hmem] at hf
      refine ARun.seq (ARun.region ?_); refine zzm ?_; refine zzf ?_; refine zzl ?_
      refine y_new rfl (Zfz (n := (k : Int)) (kt := t_int) (et := t_bool) (.inr rfl) (by kernel_rfl) (by kernel_rfl) rfl (by rw [← hk]; rfl) rfl rfl hf) ?_
      refine AOps.nil (ARun.region ?_); refine zzm ?_; refine zzf ?_; refine zzl ?_
      refine y_op rfl (q_maxR rfl rfl (show max (m : Int) p.arg = ((max m k : Nat) : Int) by omega)) ?_
      refine zza ?_; refine AOps.nil (ARun.inBlock (ARun.region ?_))
      refine y_op rfl (q_add rfl rfl (nadd1_i64 (by omega))) ?_
      refine zzm ?_; refine AOps.nil ?_
      rw [mapE_snoc]
      refine ARun.again (ih ((i + 1, max m k, ks ++ [k])) ?_ ?_) ?_ ?_
      · exact ⟨g, by dsimp only; omega, by dsimp only; rw [i3]; congr 1; omega, by (dsimp only; rw [List.nodup_append]; exact ⟨i4, by simp, fun x hx y hy e => by (rw [List.mem_singleton] at hy; subst hy; subst e; exact hmem hx)⟩), fun j => by (dsimp only; rw [hst, Bool.or_eq_true, decide_eq_true_eq, List.mem_append, List.mem_singleton, i5 j]; exact ⟨fun h => h.elim (fun h => ⟨h.1, .inl h.2⟩) (fun e => by (subst e; exact ⟨hk1, .inr hk⟩)), fun h => h.2.elim (fun h2 => .inl ⟨h.1, h2⟩) (fun e => .inr (by omega))⟩), fun j hj => by (dsimp only at hj ⊢; rw [List.mem_append, List.mem_singleton] at hj; rcases hj with hj | hj; (have := i6 j hj; omega); omega)⟩
      · (dsimp only; omega)
      · (repeat' first | exact envLe_nil | apply envLe_any | apply envLe_same)
      rfl
    refine ARun.skip (ARun.inBlock (ARun.region ?_))
    refine y_op rfl (q_add rfl rfl (nadd1_i64 (by omega))) ?_
    refine zzm ?_; refine AOps.nil ?_
    refine ARun.again (ih ((i + 1, m, ks)) ?_ ?_) ?_ ?_
    · exact ⟨g, i2, by dsimp only; rw [i3]; congr 1; omega, i4, fun j => by (dsimp only; rw [hst, Bool.or_eq_true, decide_eq_true_eq, i5 j]; exact ⟨fun h => ⟨h.1, .inl h.2⟩, fun h => ⟨h.1, h.2.elim id (fun e => by (exfalso; omega))⟩⟩), i6⟩
    · (dsimp only; omega)
    · (repeat' first | exact envLe_nil | apply envLe_any | apply envLe_same)
    rfl
  obtain rfl : i = l.length := by omega
  rw [List.take_length] at i5
  rw [List.drop_eq_nil_of_le (Nat.le_refl _)] at i3
  have i3 : M = (m : Int) := i3
  subst i3
  rw [Int.toNat_natCast] at hR
  have hg := gaps_len i4 i5 i6
  rw [← hR] at hg
  refine ARun.exit rfl ?_
  refine ARun.seq (ARun.region ?_); refine zzm ?_
  refine y_op rfl (OpQ.cast (d' := .int .i64 (ks.length : Int)) (ZgQ (kt := t_int) (et := t_bool) (by kernel_rfl) rfl rfl) (by rw [mapE_len])) ?_
  refine zzm ?_
  refine y_op rfl (OpQ.cast (d' := .bool (!R)) (q_int rfl rfl rfl) (congrArg D.bool (by rw [← hg]; exact decide_eq_decide.2 (by omega)))) ?_
  refine zzm ?_; refine zza ?_; refine zza ?_; refine AOps.nil ?_
  refine ARun.ret ?_
  refine ⟨_, _, _, .tmp rfl (.tmp rfl .nil), .cons (.same _) (.cons (.same _) .nil), rfl, ?_⟩
  rfl
end Go.V
set_option maxHeartbeats 8000000
set_option maxRecDepth 100000
set_option synthInstance.maxSize 100000
set_option synthInstance.maxHeartbeats 2000000
namespace Go.V
open Go.RowKit Go.Proofs
section
variable {env : List D} {H : Heap} {dst : Option Tmp} {x y : Operand} {ty T' : TypeId} {pos : String} {aft : Array Edge} {gd : Option (Nat × Bool)} {S T : Nat → Bool} {p q : Pc}
theorem ZgV (hx : evO Cg env x = some (setD S)) (hy : evO Cg env y = some (setD T)) :
    OpQ Cg ⟨dst, .binOp .eql Zac x y T', ty, pos, aft, gd⟩ env H (.bool (sEq S T)) :=
  ZfA (m := 2) (f := 2) (by kernel_rfl) (by decide) (by kernel_rfl) hx hy rfl rfl rfl rfl (set_lits (sw_lt S 0) (sw_lt S 1) (sw_lt S 2) (sw_lt S 3)) (set_lits (sw_lt T 0) (sw_lt T 1) (sw_lt T 2) (sw_lt T 3)) (by
    unfold sEq
    rw [decide_eq_true_eq]
    simp only [List.cons.injEq, Lit.int.injEq, true_and, and_true, Int.ofNat_inj])
theorem Zhi (hx : evO Cg env x = some (setD S)) (hy : evO Cg env y = some (.agg [.int .u64 0, .int .u64 0, .int .u64 0, .int .u64 0])) :
    OpQ Cg ⟨dst, .binOp .eql Zac x y T', ty, pos, aft, gd⟩ env H (.bool (sEq S sempty)) := ZgV hx (by rw [hy, ← swL_empty])
theorem Zgy (hx : evO Cg env x = some (pcA p)) (hy : evO Cg env y = some (pcA q)) (hp : PcF p) (hq : PcF q) :
    OpQ Cg ⟨dst, .binOp .eql Zae x y T', ty, pos, aft, gd⟩ env H (.bool (pEq p q)) :=
  ZfA (m := 3) (f := 3) (by kernel_rfl) (by decide) (by kernel_rfl) hx hy rfl rfl rfl rfl (Zgv hp) (Zgv hq) pEq_lits
abbrev bareP (s : ByteArray) (a w n : Int) (c : Nat) : Pc := ⟨s, a, w, n, c, sempty⟩
theorem bare_cells (s : ByteArray) (a w n : Int) (c : Nat) : pcA (bareP s a w n c) = .agg [.str s, .int .i64 a, .int .i64 w, .int .i64 n, .int .u8 (c : Int), .int .u64 0, .int .u64 0, .int .u64 0, .int .u64 0] := by
  have e : ∀ i, sw sempty i = 0 := fun i => (sw_ext (x := 0) (by decide) fun j _ => by rw [Nat.zero_testBit]; rfl).symm
  unfold pcA Pc.cells
  simp only [e]; rfl
theorem bare_fits {s : ByteArray} {c : Nat} (hs : s.size ≤ 1099511627776) (hc : c < 256) : PcF (bareP s 0 0 0 c) :=
  have h0 : (Lit.int .i64 0).wf = true := by decide
  ⟨⟨hs, hc⟩, h0, h0, h0⟩
theorem q_pcZ {s : ByteArray} {c : Nat} (hx : evO Cg env x = some (pcA p)) (hy : evO Cg env y = some (.agg [.str s, .int .i64 0, .int .i64 0, .int .i64 0, .int .u8 (c : Int), .int .u64 0, .int .u64 0, .int .u64 0, .int .u64 0])) (hp : PcF p) (hs : s.size ≤ 1099511627776) (hc : c < 256) :
    OpQ Cg ⟨dst, .binOp .eql Zae x y T', ty, pos, aft, gd⟩ env H (.bool (pEq p (bareP s 0 0 0 c))) := Zgy hx (by rw [hy, bare_cells]) hp (bare_fits hs hc)
end
theorem sby_inj {s t : ByteArray} (h : sby s = sby t) : s.data.toList = t.data.toList := by
  have := (str_eq s t).trans (decide_eq_true h)
  rw [ByteArray.toList_eq, ByteArray.toList_eq, beq_iff_eq] at this
  exact this
theorem pEq_bare {p : Pc} {s : ByteArray} {c : Nat} (hc : p.conv = c) : pEq p (bareP s 0 0 0 c) = ((((decide (p.arg = 0) && decide (p.wid = 0)) && decide (p.len = 0)) && sEq p.set sempty) && decide (sby p.lit = sby s)) := by
  unfold pEq sEq
  rw [← Bool.decide_and, ← Bool.decide_and, ← Bool.decide_and, ← Bool.decide_and]
  apply decide_eq_decide.2
  constructor
  · rintro ⟨a, b, c, d, e, f, g, h, i⟩
    exact ⟨⟨⟨⟨b, c⟩, d⟩, f, g, h, i⟩, by unfold sby; rw [a]⟩
  rintro ⟨⟨⟨⟨b, c⟩, d⟩, f, g, h, i⟩, a⟩
  exact ⟨sby_inj a, b, c, d, hc, f, g, h, i⟩
theorem svalid_lit {p : Pc} (hc : p.conv = 0) : svalid p = (slit p.lit && pEq p (bareP p.lit 0 0 0 0)) := by
  have e : spl p = true := by unfold spl; rw [hc]; decide
  unfold svalid
  rw [e, cond_true, pEq_bare hc, decide_eq_true hc, decide_eq_true (rfl : sby p.lit = sby p.lit), Bool.and_true, Bool.true_and, Bool.not_true, Bool.false_and, Bool.or_false, Bool.and_comm]
theorem svalid_sp {p : Pc} (hc : p.conv = 32 ∨ p.conv = 37) : svalid p = pEq p (bareP ByteArray.empty 0 0 0 p.conv) := by
  have e : spl p = true := by
    unfold spl
    rcases hc with h | h <;> rw [h] <;> decide
  have h0 : ¬ p.conv = 0 := by omega
  unfold svalid
  rw [e, cond_true, pEq_bare rfl, decide_eq_false h0, Bool.false_and, Bool.false_or, Bool.not_false, Bool.true_and]; rfl
theorem sclass_le (c : Nat) : sclass c ≤ 5 := by
  unfold sclass rowsN
  simp only [classF]
  split <;> (try split) <;> (try split) <;> (try split) <;> (try split) <;> omega
theorem sclass_n {c : Nat} (h : c < 256) : decide (sclass c = 5) = decide (c = 110) := by
  have : ∀ c, c < 256 → decide (sclass c = 5) = decide (c = 110) := by decide
  exact this c h
theorem Zgf (p : Pc) (hp : PcF p) : PC Cg Zed [pcA p] (fun o => o = .ret (.bool (svalid p))) := by
  obtain ⟨R, hR⟩ : ∃ R, R = svalid p := ⟨_, rfl⟩
  rw [← hR]
  have hl := hp.1.1
  have hc := hp.1.2
  refine PC.rn ZbZ ZdL ZdM (rs := [.tmp 2]) (by rw [ZdN]) ?_
  refine ARun.seq (ARun.region ?_); refine zzb ?_; refine zza ?_; refine AOps.nil (ARun.seq (ARun.region ?_))
  refine y_op rfl (Zbd rfl rfl rfl) ?_
  refine ZbC rfl rfl rfl rfl rfl rfl rfl rfl rfl rfl rfl ?_
  refine AOps.nil (ARun.seq (ARun.seq (ARun.region ?_))); refine zzf ?_; refine zzl ?_; refine AOps.nil (ARun.block (ARun.seq (ARun.region ?_)))
  refine y_op rfl (OpQ.cast (q_int rfl rfl rfl) (congrArg D.bool (int_dec (m := 0) rfl))) ?_
  refine zza ?_; refine AOps.nil ?_
  refine ARun.ite rfl (fun a => ?_) (fun a => ?_)
  · skip
    have a : p.conv = 0 := by omega
    rw [svalid_lit a] at hR
    refine ARun.seq (ARun.region ?_); refine zzf ?_; refine zzl ?_
    refine zzc rfl rfl (PC.g (ZfQ p.lit hl)) ?_
    refine zzm ?_
    apply AOps.andJ 13 (fun sj1 => [(13, .any), (14, .any), (15, .any), (16, .any), (17, .any), (18, .any), (19, .bool sj1)]) rfl
    · intro hj1 run1
      try replace hj1 := of_decide_eq_true hj1
      refine zzL ?_; refine zzf ?_; refine zzl ?_
      refine y_op rfl (Za4 rfl rfl rfl rfl rfl) ?_
      refine y_op rfl (q_pcZ (s := p.lit) (c := 0) rfl rfl hp hl (by decide)) ?_
      refine zzp ?_
      exact AOps.ag run1
    · intro hj1 run1
      try replace hj1 := of_decide_eq_false hj1
      refine zzk ?_; refine zzk ?_; refine zzk ?_; refine zzk ?_; refine zzk ?_; refine zzp ?_
      exact AOps.ag run1
    refine zza ?_; refine AOps.nil ?_
    subst hR
    refine ARun.ret ?_
    refine ⟨_, _, _, .tmp rfl .nil, .cons (.same _) .nil, rfl, ?_⟩
    rfl
  have a : ¬ p.conv = 0 := by omega
  refine ARun.seq (ARun.seq (ARun.region ?_))
  refine y_op rfl (OpQ.cast (q_int rfl rfl rfl) (congrArg D.bool (int_dec (m := 32) rfl))) ?_
  refine zza ?_; refine AOps.nil ?_
  refine ARun.ite rfl (fun b => ?_) (fun b => ?_)
  · skip
    have b : p.conv = 32 := by omega
    rw [svalid_sp (.inl b)] at hR
    subst hR
    refine ARun.skip ?_
    refine ARun.ite rfl (fun b2 => ?_) (fun b2 => ?_)
    · skip
      refine ARun.seq (ARun.region ?_); refine zzL ?_; refine zzf ?_; refine zzl ?_
      refine y_op rfl (Za4 rfl rfl rfl rfl rfl) ?_
      refine y_op rfl (q_pcZ (s := ByteArray.empty) (c := p.conv) rfl rfl hp (by decide) hc) ?_
      refine zza ?_; refine AOps.nil ?_
      refine ARun.ret ?_
      refine ⟨_, _, _, .tmp rfl .nil, .cons (.same _) .nil, rfl, ?_⟩
      rfl
    exact absurd b b2
  have b : ¬ p.conv = 32 := by omega
  refine ARun.region ?_
  refine y_op rfl (OpQ.cast (q_int rfl rfl rfl) (congrArg D.bool (int_dec (m := 37) rfl))) ?_
  refine zza ?_; refine AOps.nil ?_
  refine ARun.ite rfl (fun d => ?_) (fun d => ?_)
  · skip
    have d : p.conv = 37 := by omega
    rw [svalid_sp (.inr d)] at hR
    subst hR
    refine ARun.seq (ARun.region ?_); refine zzL ?_; refine zzf ?_; refine zzl ?_
    refine y_op rfl (Za4 rfl rfl rfl rfl rfl) ?_
    refine y_op rfl (q_pcZ (s := ByteArray.empty) (c := p.conv) rfl rfl hp (by decide) hc) ?_
    refine zza ?_; refine AOps.nil ?_
    refine ARun.ret ?_
    refine ⟨_, _, _, .tmp rfl .nil, .cons (.same _) .nil, rfl, ?_⟩
    rfl
  have d : ¬ p.conv = 37 := by omega
  have hspl : spl p = false := by unfold spl; rw [decide_eq_false a, decide_eq_false b, decide_eq_false d]; rfl
  unfold svalid at hR
  rw [hspl, cond_false] at hR
  refine ARun.skip (ARun.inBlock (ARun.seq (ARun.region ?_))); refine zzl ?_; refine zzf ?_; refine zzl ?_
  refine y_op rfl (OpQ.cast (d' := .int .i64 ((sclass p.conv : Nat) : Int)) (Zfn (kt := ZaK) (et := t_int) (by kernel_rfl) (by kernel_rfl) rfl rfl rfl rfl rfl (row_of hc)) (by split <;> (rename_i hz; simp [hz]))) ?_
  refine zza ?_; refine AOps.nil (ARun.seq (ARun.block (ARun.seq (ARun.region ?_)))); refine zzm ?_
  refine y_op rfl (OpQ.cast (d' := .bool (decide (sclass p.conv = 0))) (q_int rfl rfl rfl) (congrArg D.bool (decide_eq_decide.2 (by omega)))) ?_
  refine zzm ?_
  apply AOps.orJ 35 (fun sj2 => [(35, .any), (36, .any), (37, .any), (38, .any), (39, .any), (40, .any), (41, .bool sj2)]) rfl
  · intro hj2 run2
    try replace hj2 := of_decide_eq_true hj2
    refine zzk ?_; refine zzk ?_; refine zzk ?_; refine zzk ?_; refine zzk ?_; refine zzp ?_
    exact AOps.ag run2
  · intro hj2 run2
    try replace hj2 := of_decide_eq_false hj2
    refine zzm ?_; refine zzf ?_; refine zzl ?_
    refine zzc rfl rfl (PC.g (ZfW ((sclass p.conv : Nat) : Int) p.len ⟨by omega, by have := sclass_le p.conv; omega⟩)) ?_
    refine zzn ?_; refine zzp ?_
    exact AOps.ag run2
  refine zzm ?_
  apply AOps.orJ 42 (fun sj3 => [(42, .any), (43, .any), (44, .any), (45, .any), (46, .bool sj3)]) rfl
  · intro hj3 run3
    try replace hj3 := of_decide_eq_true hj3
    refine zzk ?_; refine zzk ?_; refine zzk ?_; refine zzp ?_
    exact AOps.ag run3
  · intro hj3 run3
    try replace hj3 := of_decide_eq_false hj3
    refine zzf ?_; refine zzl ?_
    refine y_op rfl (OpQ.cast (Zgm rfl rfl) (congrArg D.bool (show _ = !decide (sby p.lit = []) by rw [str_eq]; rfl))) ?_
    refine zzp ?_
    exact AOps.ag run3
  refine zzm ?_
  apply AOps.orJ 47 (fun sj4 => [(47, .any), (48, .any), (49, .any), (50, .any), (51, .bool sj4)]) rfl
  · intro hj4 run4
    try replace hj4 := of_decide_eq_true hj4
    refine zzk ?_; refine zzk ?_; refine zzk ?_; refine zzp ?_
    exact AOps.ag run4
  · intro hj4 run4
    try replace hj4 := of_decide_eq_false hj4
    refine zzf ?_; refine zzl ?_; refine zzi ?_; refine zzp ?_
    exact AOps.ag run4
  refine zzm ?_
  apply AOps.orJ 52 (fun sj5 => [(52, .any), (53, .any), (54, .any), (55, .any), (56, .bool sj5)]) rfl
  · intro hj5 run5
    try replace hj5 := of_decide_eq_true hj5
    refine zzk ?_; refine zzk ?_; refine zzk ?_; refine zzp ?_
    exact AOps.ag run5
  · intro hj5 run5
    try replace hj5 := of_decide_eq_false hj5
    refine zzf ?_; refine zzl ?_; refine zzi ?_; refine zzp ?_
    exact AOps.ag run5
  refine zzm ?_
  apply AOps.orJ 57 (fun sj6 => [(57, .any), (58, .any), (59, .any), (60, .any), (61, .bool sj6)]) rfl
  · intro hj6 run6
    try replace hj6 := of_decide_eq_true hj6
    refine zzk ?_; refine zzk ?_; refine zzk ?_; refine zzp ?_
    exact AOps.ag run6
  · intro hj6 run6
    try replace hj6 := of_decide_eq_false hj6
    refine zzf ?_; refine zzl ?_; refine zzi ?_; refine zzp ?_
    exact AOps.ag run6
  refine zzm ?_
  apply AOps.orJ 62 (fun sj7 => [(62, .any), (63, .any), (64, .any), (65, .any), (66, .bool sj7)]) rfl
  · intro hj7 run7
    try replace hj7 := of_decide_eq_true hj7
    refine zzk ?_; refine zzk ?_; refine zzk ?_; refine zzp ?_
    exact AOps.ag run7
  · intro hj7 run7
    try replace hj7 := of_decide_eq_false hj7
    refine zzf ?_; refine zzl ?_; refine zzi ?_; refine zzp ?_
    exact AOps.ag run7
  refine zza ?_; refine AOps.nil ?_
  refine ARun.cond rfl (fun u => ?_) (fun u => ?_)
  · skip
    have hu : ((((((decide (sclass p.conv = 0) || !decide (sby p.lit = [])) || decide (p.arg < 0)) || decide (p.arg > 64)) || decide (p.wid < 0)) || decide (p.wid > 10000)) || !slong ((sclass p.conv : Nat) : Int) p.len) = true := by
      rw [← u]; simp only [Bool.or_assoc, Bool.or_comm, Bool.or_left_comm]
    rw [hu, cond_true] at hR
    subst hR
    refine ARun.seq (ARun.region ?_); refine zza ?_; refine AOps.nil ?_
    refine ARun.ret ?_
    refine ⟨_, _, _, .tmp rfl .nil, .cons (.same _) .nil, rfl, ?_⟩
    rfl
  have hu : ((((((decide (sclass p.conv = 0) || !decide (sby p.lit = [])) || decide (p.arg < 0)) || decide (p.arg > 64)) || decide (p.wid < 0)) || decide (p.wid > 10000)) || !slong ((sclass p.conv : Nat) : Int) p.len) = false := by
    rw [← u]; simp only [Bool.or_assoc, Bool.or_comm, Bool.or_left_comm]
  rw [hu, cond_false] at hR
  clear u hu
  refine ARun.seq (ARun.region ?_); refine zzm ?_
  refine y_op rfl (OpQ.cast (d' := .bool (decide (p.conv = 110))) (q_int rfl rfl rfl) (congrArg D.bool (by rw [← sclass_n hc]; exact decide_eq_decide.2 (by omega)))) ?_
  refine zzm ?_
  apply AOps.andJ 70 (fun sj8 => [(70, .any), (71, .any), (72, .any), (73, .any), (74, .any), (75, .any), (76, .any), (77, .any), (78, .any), (79, .bool sj8)]) rfl
  · intro hj8 run8
    try replace hj8 := of_decide_eq_true hj8
    refine zzf ?_; refine zzl ?_
    refine y_op rfl (OpQ.cast (d' := .bool (decide (p.arg = 0))) (q_int rfl rfl rfl) rfl) ?_
    refine zzm ?_
    apply AOps.orJ 74 (fun sj9 => [(74, .any), (75, .any), (76, .any), (77, .any), (78, .bool sj9)]) rfl
    · intro hj9 run9
      try replace hj9 := of_decide_eq_true hj9
      refine zzk ?_; refine zzk ?_; refine zzk ?_; refine zzp ?_
      exact AOps.ag run9
    · intro hj9 run9
      try replace hj9 := of_decide_eq_false hj9
      refine zzf ?_; refine zzl ?_; refine zzi ?_; refine zzp ?_
      exact AOps.ag run9
    refine zzp ?_
    exact AOps.ag run8
  · intro hj8 run8
    try replace hj8 := of_decide_eq_false hj8
    refine zzk ?_; refine zzk ?_; refine zzk ?_; refine zzk ?_; refine zzk ?_; refine zzk ?_; refine zzk ?_; refine zzk ?_; refine zzp ?_
    exact AOps.ag run8
  refine zza ?_; refine AOps.nil ?_
  refine ARun.cond rfl (fun e => ?_) (fun e => ?_)
  · skip
    rw [e, cond_true] at hR
    subst hR
    refine ARun.seq (ARun.region ?_); refine zza ?_; refine AOps.nil ?_
    refine ARun.ret ?_
    refine ⟨_, _, _, .tmp rfl .nil, .cons (.same _) .nil, rfl, ?_⟩
    rfl
  rw [e, cond_false] at hR
  clear e
  refine ARun.seq (ARun.region ?_); refine zzf ?_; refine zzl ?_
  refine y_op rfl (OpQ.cast (q_int rfl rfl rfl) (congrArg D.bool (int_dec (m := 91) rfl))) ?_
  refine zza ?_; refine AOps.nil ?_
  refine ARun.ite rfl (fun f => ?_) (fun f => ?_)
  · skip
    rw [decide_eq_true f, cond_true] at hR
    subst hR
    refine ARun.seq (ARun.region ?_); refine zzf ?_; refine zzL ?_
    refine zzc rfl rfl (PC.g (Zbr p.set 0 (by decide))) ?_
    refine zzn ?_; refine zza ?_; refine AOps.nil ?_
    refine ARun.ret ?_
    refine ⟨_, _, _, .tmp rfl .nil, .cons (.same _) .nil, rfl, ?_⟩
    rfl
  rw [decide_eq_false f, cond_false] at hR
  subst hR
  refine ARun.skip (ARun.inBlock (ARun.seq (ARun.region ?_))); refine zzf ?_; refine zzL ?_; refine zzL ?_
  refine y_op rfl (Zhi rfl rfl) ?_
  refine zza ?_; refine AOps.nil ?_
  refine ARun.ret ?_
  refine ⟨_, _, _, .tmp rfl .nil, .cons (.same _) .nil, rfl, ?_⟩
  rfl
end Go.V
set_option maxHeartbeats 8000000
set_option maxRecDepth 100000
set_option synthInstance.maxSize 100000
set_option synthInstance.maxHeartbeats 2000000
namespace Go.V
open Go.RowKit Go.Proofs
theorem ZdW (l : List Pc) (hw : ∀ p ∈ l, PcF p) (hl : l.length ≤ 1099511627776) : PC Cg Zd3 [slP l] (fun o => o = .ret (.tup [.int .i64 (scheck l).1, .int .i64 (scheck l).2])) := by
  obtain ⟨R, hR⟩ : ∃ R, R = scheck l := ⟨_, rfl⟩
  rw [← hR]
  unfold scheck at hR
  refine PC.rn ZbU ZdE ZdF (rs := [.tmp 2, .tmp 3]) (by rw [ZdG]) ?_
  refine ARun.seq (ARun.region ?_); refine zza ?_; refine zza ?_; refine AOps.nil (ARun.seq (ARun.seq (ARun.region ?_))); refine zzm ?_; refine zzN ?_; refine zzi ?_; refine AOps.nil ?_
  refine ARun.ite rfl (fun a => ?_) (fun a => ?_)
  · skip
    rw [if_pos (show 500 < l.length by omega)] at hR
    subst hR
    refine ARun.seq (ARun.region ?_); refine zza ?_; refine zza ?_; refine AOps.nil ?_
    refine ARun.ret ?_
    refine ⟨_, _, _, .tmp rfl (.tmp rfl .nil), .cons (.same _) (.cons (.same _) .nil), rfl, ?_⟩
    rfl
  rw [if_neg (show ¬ 500 < l.length by omega)] at hR
  have a5 : l.length ≤ 500 := by omega
  clear a
  refine ARun.skip (ARun.seq (ARun.seq (ARun.region ?_))); refine zzm ?_; refine zzN ?_; refine zzm ?_; refine AOps.nil (ARun.block ?_)
  refine ARun.loopI (S := Nat) (fun i : Nat => [(2, .any), (3, .any), (4, .any), (5, .any), (14, .any), (15, .any), (16, .any), (17, .any), (18, .any), (19, .any), (20, .any), (21, .any), (22, .any), (23, .any), (24, .any), (25, .any), (26, .any), (27, .any), (28, .any), (29, .any), (30, .any), (31, .any), (32, .any), (33, .any), (34, .any), (35, .any), (36, .any), (37, .any), (38, .any), (39, .any), (40, .any), (41, .any), (42, .any), (43, .any), (44, .any), (45, .any), (46, .any), (47, .any), (13, .int .i64 (i : Int))]) (fun i : Nat => []) (fun i : Nat => i ≤ l.length ∧ R = schk l i ∧ ∀ j, j < i → svalid (l.getD j pcZ) = true) (fun i : Nat => l.length - i) (0) ?_ ?_ ?_ ?_
  · exact ⟨Nat.zero_le _, hR, fun j h => absurd h (Nat.not_lt_zero j)⟩
  · (repeat' first | exact envLe_nil | apply envLe_any | apply envLe_same)
  · rfl
  rintro i hinv ih
  obtain ⟨i1, i2, i3⟩ := hinv
  refine ARun.seq (ARun.region ?_); refine zzi ?_; refine AOps.nil (ARun.seq ?_)
  refine ARun.ite rfl (fun g => ?_) (fun g => ?_)
  · skip
    have g : i < l.length := by omega
    have hd := pcs_drop l i g
    have hne := pcs_ne g
    have hpw : PcF (l.getD i pcZ) := by rw [List.getD_eq_getElem?_getD, List.getElem?_eq_getElem g]; exact hw _ (List.getElem_mem g)
    obtain ⟨p, hp⟩ : ∃ p, p = l.getD i pcZ := ⟨_, rfl⟩
    rw [← hp] at hd hpw
    have hV := Zgf p hpw
    have hb : sbad l i = (!svalid p || sadj l i) := by rw [hp]; rfl
    have hset : svalid p = true → ∀ j, j < i + 1 → svalid (l.getD j pcZ) = true := fun h j hj => (Nat.lt_or_eq_of_le (Nat.le_of_lt_succ hj)).elim (i3 j) (fun e => by rw [e, ← hp]; exact h)
    cases v : svalid p
    · rw [v] at hV hb
      have hb : sbad l i = true := hb
      rw [schk_bad g hb] at i2
      subst i2
      refine ARun.skip (ARun.seq (ARun.block (ARun.seq (ARun.region ?_)))); refine zzm ?_
      refine y_op rfl (Zav rfl rfl rfl rfl (by omega) (by omega) hne hd) ?_
      refine zzL ?_
      refine Zcf rfl rfl rfl rfl rfl rfl (fun _ h => by cases h; decide) rfl rfl rfl rfl rfl rfl rfl (by decide) ?_
      refine AOps.nil (ARun.seq ?_)
      refine ARun.drawnP 28 (fun _ => False) mixC rfl rfl (by kernel_rfl) (fun _ _ h => h.elim) ?_
      refine .op rfl (Zbg rfl rfl rfl rfl rfl) ?_
      refine .op rfl (q_call rfl rfl (hV)) ?_
      refine .op rfl (q_not rfl) ?_
      refine .op rfl (q_move rfl) ?_
      refine .skip rfl ?_
      refine .skip rfl ?_
      refine .skip rfl ?_
      refine .skip rfl ?_
      refine .skip rfl ?_
      refine .skip rfl ?_
      refine .skip rfl ?_
      refine .skip rfl ?_
      refine .skip rfl ?_
      refine .skip rfl ?_
      refine .skip rfl ?_
      refine .skip rfl ?_
      refine .skip rfl ?_
      refine .skip rfl ?_
      refine .skip rfl ?_
      refine .skip rfl ?_
      refine .skip rfl ?_
      refine .skip rfl ?_
      refine .skip rfl ?_
      refine .skip rfl ?_
      refine .skip rfl ?_
      refine .skip rfl ?_
      refine .skip rfl ?_
      refine .op rfl (q_pick rfl rfl rfl rfl) ?_
      refine .nil (fun hG => ?_)
      refine AOps.nil ?_
      refine ARun.condT rfl ?_
      refine ARun.seq (ARun.region ?_); refine zzm ?_; refine zza ?_; refine zza ?_; refine AOps.nil ?_
      refine ARun.ret ?_
      refine ⟨_, _, _, .tmp rfl (.tmp rfl .nil), .cons (.same _) (.cons (.same _) .nil), rfl, ?_⟩
      rfl
    rw [v] at hV hb
    have hb : sbad l i = sadj l i := hb
    rcases Nat.eq_zero_or_pos i with h0 | h0
    · have hb : sbad l i = false := by rw [hb]; unfold sadj; rw [decide_eq_false (show ¬ 0 < i by omega)]; rfl
      rw [schk_go g hb] at i2
      refine ARun.skip (ARun.seq (ARun.block (ARun.seq (ARun.region ?_)))); refine zzm ?_
      refine y_op rfl (Zav rfl rfl rfl rfl (by omega) (by omega) hne hd) ?_
      refine zzL ?_
      refine Zcf rfl rfl rfl rfl rfl rfl (fun _ h => by cases h; decide) rfl rfl rfl rfl rfl rfl rfl (by decide) ?_
      refine AOps.nil (ARun.seq ?_)
      refine ARun.drawnP 28 (fun _ => False) mixC rfl rfl (by kernel_rfl) (fun _ _ h => h.elim) ?_
      refine .op rfl (Zbg rfl rfl rfl rfl rfl) ?_
      refine .op rfl (q_call rfl rfl (hV)) ?_
      refine .op rfl (q_not rfl) ?_
      refine .op rfl (q_move rfl) ?_
      refine .op rfl (q_move rfl) ?_
      refine .op rfl (OpQ.cast (d' := .bool false) (q_int rfl rfl rfl) (congrArg D.bool (decide_eq_false (by omega)))) ?_
      refine .op rfl (q_move rfl) ?_
      refine .skip rfl ?_
      refine .skip rfl ?_
      refine .skip rfl ?_
      refine .skip rfl ?_
      refine .skip rfl ?_
      refine .skip rfl ?_
      refine .skip rfl ?_
      refine .skip rfl ?_
      refine .skip rfl ?_
      refine .op rfl (q_pick rfl rfl rfl rfl) ?_
      refine .op rfl (q_move rfl) ?_
      refine .skip rfl ?_
      refine .skip rfl ?_
      refine .skip rfl ?_
      refine .skip rfl ?_
      refine .skip rfl ?_
      refine .skip rfl ?_
      refine .skip rfl ?_
      refine .skip rfl ?_
      refine .op rfl (q_pick rfl rfl rfl rfl) ?_
      refine .op rfl (q_pick rfl rfl rfl rfl) ?_
      refine .nil (fun hG => ?_)
      refine AOps.nil ?_
      refine ARun.condF rfl ?_
      refine ARun.skip (ARun.inBlock (ARun.region ?_))
      refine y_op rfl (q_add rfl rfl (nadd1_i64 (by omega))) ?_
      refine zzm ?_; refine AOps.nil ?_
      refine ARun.again (ih (i + 1) ?_ ?_) ?_ ?_
      · exact ⟨g, i2, hset v⟩
      · omega
      · (repeat' first | exact envLe_nil | apply envLe_any | apply envLe_same)
      rfl
    have hdr := pcs_drop l (i - 1) (by omega)
    have hb : sbad l i = (decide (p.conv = (l.getD (i - 1) pcZ).conv) && (decide (p.conv = 0) || decide (p.conv = 32))) := by rw [hb]; unfold sadj; rw [decide_eq_true h0, Bool.true_and, ← hp]
    generalize l.getD (i - 1) pcZ = r at *
    by_cases hcc : p.conv = r.conv
    · rw [decide_eq_true hcc, Bool.true_and] at hb
      by_cases hz : p.conv = 0
      · rw [decide_eq_true hz, Bool.true_or] at hb
        rw [schk_bad g hb] at i2
        subst i2
        refine ARun.skip (ARun.seq (ARun.block (ARun.seq (ARun.region ?_)))); refine zzm ?_
        refine y_op rfl (Zav rfl rfl rfl rfl (by omega) (by omega) hne hd) ?_
        refine zzL ?_
        refine Zcf rfl rfl rfl rfl rfl rfl (fun _ h => by cases h; decide) rfl rfl rfl rfl rfl rfl rfl (by decide) ?_
        refine AOps.nil (ARun.seq ?_)
        refine ARun.drawnP 28 (fun _ => False) mixC rfl rfl (by kernel_rfl) (fun _ _ h => h.elim) ?_
        refine .op rfl (Zbg rfl rfl rfl rfl rfl) ?_
        refine .op rfl (q_call rfl rfl (hV)) ?_
        refine .op rfl (q_not rfl) ?_
        refine .op rfl (q_move rfl) ?_
        refine .op rfl (q_move rfl) ?_
        refine .op rfl (OpQ.cast (d' := .bool true) (q_int rfl rfl rfl) (congrArg D.bool (decide_eq_true (by omega)))) ?_
        refine .op rfl (q_move rfl) ?_
        refine .op rfl (q_fldS rfl rfl rfl (by decide)) ?_
        refine .op rfl (q_load rfl rfl rfl rfl) ?_
        refine .op rfl (q_move rfl) ?_
        refine .op rfl (q_move rfl) ?_
        refine .op rfl (OpQ.cast (d' := .int .i64 ((i - 1 : Nat) : Int)) (q_int rfl rfl rfl) (congrArg (D.int .i64) (by show IntKind.i64.wrap _ = _; rw [IntWalk.i64_in _ (by omega)]; omega))) ?_
        refine .op rfl (Zav rfl rfl rfl rfl (by omega) (by omega) hne hdr) ?_
        refine .op rfl (q_fldS rfl rfl rfl (by decide)) ?_
        refine .op rfl (q_load rfl rfl rfl rfl) ?_
        refine .op rfl (OpQ.cast (d' := .bool true) (q_int rfl rfl rfl) (congrArg D.bool ((int_dec (m := r.conv) rfl).trans (decide_eq_true hcc)))) ?_
        refine .op rfl (q_pick rfl rfl rfl rfl) ?_
        refine .op rfl (q_move rfl) ?_
        refine .op rfl (q_fldS rfl rfl rfl (by decide)) ?_
        refine .op rfl (q_load rfl rfl rfl rfl) ?_
        refine .op rfl (OpQ.cast (d' := .bool true) (q_int rfl rfl rfl) (congrArg D.bool ((int_dec (m := 0) rfl).trans (decide_eq_true hz)))) ?_
        refine .op rfl (q_move rfl) ?_
        refine .skip rfl ?_
        refine .skip rfl ?_
        refine .skip rfl ?_
        refine .op rfl (q_pick rfl rfl rfl rfl) ?_
        refine .op rfl (q_pick rfl rfl rfl rfl) ?_
        refine .op rfl (q_pick rfl rfl rfl rfl) ?_
        refine .nil (fun hG => ?_)
        refine AOps.nil ?_
        refine ARun.condT rfl ?_
        refine ARun.seq (ARun.region ?_); refine zzm ?_; refine zza ?_; refine zza ?_; refine AOps.nil ?_
        refine ARun.ret ?_
        refine ⟨_, _, _, .tmp rfl (.tmp rfl .nil), .cons (.same _) (.cons (.same _) .nil), rfl, ?_⟩
        rfl
      rw [decide_eq_false hz, Bool.false_or] at hb
      by_cases ht : p.conv = 32
      · rw [decide_eq_true ht] at hb
        rw [schk_bad g hb] at i2
        subst i2
        refine ARun.skip (ARun.seq (ARun.block (ARun.seq (ARun.region ?_)))); refine zzm ?_
        refine y_op rfl (Zav rfl rfl rfl rfl (by omega) (by omega) hne hd) ?_
        refine zzL ?_
        refine Zcf rfl rfl rfl rfl rfl rfl (fun _ h => by cases h; decide) rfl rfl rfl rfl rfl rfl rfl (by decide) ?_
        refine AOps.nil (ARun.seq ?_)
        refine ARun.drawnP 28 (fun _ => False) mixC rfl rfl (by kernel_rfl) (fun _ _ h => h.elim) ?_
        refine .op rfl (Zbg rfl rfl rfl rfl rfl) ?_
        refine .op rfl (q_call rfl rfl (hV)) ?_
        refine .op rfl (q_not rfl) ?_
        refine .op rfl (q_move rfl) ?_
        refine .op rfl (q_move rfl) ?_
        refine .op rfl (OpQ.cast (d' := .bool true) (q_int rfl rfl rfl) (congrArg D.bool (decide_eq_true (by omega)))) ?_
        refine .op rfl (q_move rfl) ?_
        refine .op rfl (q_fldS rfl rfl rfl (by decide)) ?_
        refine .op rfl (q_load rfl rfl rfl rfl) ?_
        refine .op rfl (q_move rfl) ?_
        refine .op rfl (q_move rfl) ?_
        refine .op rfl (OpQ.cast (d' := .int .i64 ((i - 1 : Nat) : Int)) (q_int rfl rfl rfl) (congrArg (D.int .i64) (by show IntKind.i64.wrap _ = _; rw [IntWalk.i64_in _ (by omega)]; omega))) ?_
        refine .op rfl (Zav rfl rfl rfl rfl (by omega) (by omega) hne hdr) ?_
        refine .op rfl (q_fldS rfl rfl rfl (by decide)) ?_
        refine .op rfl (q_load rfl rfl rfl rfl) ?_
        refine .op rfl (OpQ.cast (d' := .bool true) (q_int rfl rfl rfl) (congrArg D.bool ((int_dec (m := r.conv) rfl).trans (decide_eq_true hcc)))) ?_
        refine .op rfl (q_pick rfl rfl rfl rfl) ?_
        refine .op rfl (q_move rfl) ?_
        refine .op rfl (q_fldS rfl rfl rfl (by decide)) ?_
        refine .op rfl (q_load rfl rfl rfl rfl) ?_
        refine .op rfl (OpQ.cast (d' := .bool false) (q_int rfl rfl rfl) (congrArg D.bool ((int_dec (m := 0) rfl).trans (decide_eq_false hz)))) ?_
        refine .op rfl (q_move rfl) ?_
        refine .op rfl (q_fldS rfl rfl rfl (by decide)) ?_
        refine .op rfl (q_load rfl rfl rfl rfl) ?_
        refine .op rfl (OpQ.cast (d' := .bool true) (q_int rfl rfl rfl) (congrArg D.bool ((int_dec (m := 32) rfl).trans (decide_eq_true ht)))) ?_
        refine .op rfl (q_pick rfl rfl rfl rfl) ?_
        refine .op rfl (q_pick rfl rfl rfl rfl) ?_
        refine .op rfl (q_pick rfl rfl rfl rfl) ?_
        refine .nil (fun hG => ?_)
        refine AOps.nil ?_
        refine ARun.condT rfl ?_
        refine ARun.seq (ARun.region ?_); refine zzm ?_; refine zza ?_; refine zza ?_; refine AOps.nil ?_
        refine ARun.ret ?_
        refine ⟨_, _, _, .tmp rfl (.tmp rfl .nil), .cons (.same _) (.cons (.same _) .nil), rfl, ?_⟩
        rfl
      rw [decide_eq_false ht] at hb
      rw [schk_go g hb] at i2
      refine ARun.skip (ARun.seq (ARun.block (ARun.seq (ARun.region ?_)))); refine zzm ?_
      refine y_op rfl (Zav rfl rfl rfl rfl (by omega) (by omega) hne hd) ?_
      refine zzL ?_
      refine Zcf rfl rfl rfl rfl rfl rfl (fun _ h => by cases h; decide) rfl rfl rfl rfl rfl rfl rfl (by decide) ?_
      refine AOps.nil (ARun.seq ?_)
      refine ARun.drawnP 28 (fun _ => False) mixC rfl rfl (by kernel_rfl) (fun _ _ h => h.elim) ?_
      refine .op rfl (Zbg rfl rfl rfl rfl rfl) ?_
      refine .op rfl (q_call rfl rfl (hV)) ?_
      refine .op rfl (q_not rfl) ?_
      refine .op rfl (q_move rfl) ?_
      refine .op rfl (q_move rfl) ?_
      refine .op rfl (OpQ.cast (d' := .bool true) (q_int rfl rfl rfl) (congrArg D.bool (decide_eq_true (by omega)))) ?_
      refine .op rfl (q_move rfl) ?_
      refine .op rfl (q_fldS rfl rfl rfl (by decide)) ?_
      refine .op rfl (q_load rfl rfl rfl rfl) ?_
      refine .op rfl (q_move rfl) ?_
      refine .op rfl (q_move rfl) ?_
      refine .op rfl (OpQ.cast (d' := .int .i64 ((i - 1 : Nat) : Int)) (q_int rfl rfl rfl) (congrArg (D.int .i64) (by show IntKind.i64.wrap _ = _; rw [IntWalk.i64_in _ (by omega)]; omega))) ?_
      refine .op rfl (Zav rfl rfl rfl rfl (by omega) (by omega) hne hdr) ?_
      refine .op rfl (q_fldS rfl rfl rfl (by decide)) ?_
      refine .op rfl (q_load rfl rfl rfl rfl) ?_
      refine .op rfl (OpQ.cast (d' := .bool true) (q_int rfl rfl rfl) (congrArg D.bool ((int_dec (m := r.conv) rfl).trans (decide_eq_true hcc)))) ?_
      refine .op rfl (q_pick rfl rfl rfl rfl) ?_
      refine .op rfl (q_move rfl) ?_
      refine .op rfl (q_fldS rfl rfl rfl (by decide)) ?_
      refine .op rfl (q_load rfl rfl rfl rfl) ?_
      refine .op rfl (OpQ.cast (d' := .bool false) (q_int rfl rfl rfl) (congrArg D.bool ((int_dec (m := 0) rfl).trans (decide_eq_false hz)))) ?_
      refine .op rfl (q_move rfl) ?_
      refine .op rfl (q_fldS rfl rfl rfl (by decide)) ?_
      refine .op rfl (q_load rfl rfl rfl rfl) ?_
      refine .op rfl (OpQ.cast (d' := .bool false) (q_int rfl rfl rfl) (congrArg D.bool ((int_dec (m := 32) rfl).trans (decide_eq_false ht)))) ?_
      refine .op rfl (q_pick rfl rfl rfl rfl) ?_
      refine .op rfl (q_pick rfl rfl rfl rfl) ?_
      refine .op rfl (q_pick rfl rfl rfl rfl) ?_
      refine .nil (fun hG => ?_)
      refine AOps.nil ?_
      refine ARun.condF rfl ?_
      refine ARun.skip (ARun.inBlock (ARun.region ?_))
      refine y_op rfl (q_add rfl rfl (nadd1_i64 (by omega))) ?_
      refine zzm ?_; refine AOps.nil ?_
      refine ARun.again (ih (i + 1) ?_ ?_) ?_ ?_
      · exact ⟨g, i2, hset v⟩
      · omega
      · (repeat' first | exact envLe_nil | apply envLe_any | apply envLe_same)
      rfl
    rw [decide_eq_false hcc, Bool.false_and] at hb
    rw [schk_go g hb] at i2
    refine ARun.skip (ARun.seq (ARun.block (ARun.seq (ARun.region ?_)))); refine zzm ?_
    refine y_op rfl (Zav rfl rfl rfl rfl (by omega) (by omega) hne hd) ?_
    refine zzL ?_
    refine Zcf rfl rfl rfl rfl rfl rfl (fun _ h => by cases h; decide) rfl rfl rfl rfl rfl rfl rfl (by decide) ?_
    refine AOps.nil (ARun.seq ?_)
    refine ARun.drawnP 28 (fun _ => False) mixC rfl rfl (by kernel_rfl) (fun _ _ h => h.elim) ?_
    refine .op rfl (Zbg rfl rfl rfl rfl rfl) ?_
    refine .op rfl (q_call rfl rfl (hV)) ?_
    refine .op rfl (q_not rfl) ?_
    refine .op rfl (q_move rfl) ?_
    refine .op rfl (q_move rfl) ?_
    refine .op rfl (OpQ.cast (d' := .bool true) (q_int rfl rfl rfl) (congrArg D.bool (decide_eq_true (by omega)))) ?_
    refine .op rfl (q_move rfl) ?_
    refine .op rfl (q_fldS rfl rfl rfl (by decide)) ?_
    refine .op rfl (q_load rfl rfl rfl rfl) ?_
    refine .op rfl (q_move rfl) ?_
    refine .op rfl (q_move rfl) ?_
    refine .op rfl (OpQ.cast (d' := .int .i64 ((i - 1 : Nat) : Int)) (q_int rfl rfl rfl) (congrArg (D.int .i64) (by show IntKind.i64.wrap _ = _; rw [IntWalk.i64_in _ (by omega)]; omega))) ?_
    refine .op rfl (Zav rfl rfl rfl rfl (by omega) (by omega) hne hdr) ?_
    refine .op rfl (q_fldS rfl rfl rfl (by decide)) ?_
    refine .op rfl (q_load rfl rfl rfl rfl) ?_
    refine .op rfl (OpQ.cast (d' := .bool false) (q_int rfl rfl rfl) (congrArg D.bool ((int_dec (m := r.conv) rfl).trans (decide_eq_false hcc)))) ?_
    refine .op rfl (q_pick rfl rfl rfl rfl) ?_
    refine .op rfl (q_move rfl) ?_
    refine .skip rfl ?_
    refine .skip rfl ?_
    refine .skip rfl ?_
    refine .skip rfl ?_
    refine .skip rfl ?_
    refine .skip rfl ?_
    refine .skip rfl ?_
    refine .skip rfl ?_
    refine .op rfl (q_pick rfl rfl rfl rfl) ?_
    refine .op rfl (q_pick rfl rfl rfl rfl) ?_
    refine .nil (fun hG => ?_)
    refine AOps.nil ?_
    refine ARun.condF rfl ?_
    refine ARun.skip (ARun.inBlock (ARun.region ?_))
    refine y_op rfl (q_add rfl rfl (nadd1_i64 (by omega))) ?_
    refine zzm ?_; refine AOps.nil ?_
    refine ARun.again (ih (i + 1) ?_ ?_) ?_ ?_
    · exact ⟨g, i2, hset v⟩
    · omega
    · (repeat' first | exact envLe_nil | apply envLe_any | apply envLe_same)
    rfl
  obtain rfl : i = l.length := by omega
  rw [schk_end (by omega)] at i2
  have hga := ZeJ l hl (fun p hp => by
    obtain ⟨j, hj, e⟩ := List.getElem_of_mem hp
    have := i3 j hj
    rw [List.getD_eq_getElem?_getD, List.getElem?_eq_getElem hj] at this
    rw [← e]
    exact svalid_arg this)
  generalize sgr l = y at *
  refine ARun.exit rfl ?_
  refine ARun.seq (ARun.seq (ARun.region ?_)); refine zzm ?_
  refine zzc rfl rfl (PC.g hga) ?_
  refine zzm ?_; refine zze ?_; refine zze ?_; refine zza ?_; refine zza ?_; refine AOps.nil (ARun.seq (ARun.region ?_)); refine zzm ?_; refine AOps.nil ?_
  refine ARun.cond rfl (fun u => ?_) (fun u => ?_)
  · skip
    have u : y.2 = false := by simpa using u
    rw [u, cond_false] at i2
    subst i2
    refine ARun.seq (ARun.region ?_); refine zzm ?_; refine zzN ?_; refine zza ?_; refine zza ?_; refine AOps.nil ?_
    refine ARun.ret ?_
    refine ⟨_, _, _, .tmp rfl (.tmp rfl .nil), .cons (.same _) (.cons (.same _) .nil), rfl, ?_⟩
    rfl
  have u : y.2 = true := by simpa using u
  rw [u, cond_true] at i2
  subst i2
  refine ARun.skip (ARun.seq (ARun.region ?_)); refine zza ?_; refine zza ?_; refine AOps.nil ?_
  refine ARun.ret ?_
  refine ⟨_, _, _, .tmp rfl (.tmp rfl .nil), .cons (.same _) (.cons (.same _) .nil), rfl, ?_⟩
  rfl
theorem Zgz (l : List Pc) (hw : ∀ p ∈ l, PcF p) (hl : l.length ≤ 1099511627776) : PC Cg ZcE [slP l] (fun o => o = .ret (.tup [.int .i64 (sArgs l).1, .int .i64 (sArgs l).2])) := by
  obtain ⟨R, hR⟩ : ∃ R, R = sArgs l := ⟨_, rfl⟩
  rw [← hR]
  unfold sArgs at hR
  have hC := ZdW l hw hl
  have hA := fun h => ZeJ l hl (scheck_arg h)
  generalize scheck l = c at *
  generalize sgr l = y at *
  refine PC.rn Zco Zd4 Zd5 (rs := [.tmp 2, .tmp 3]) (by rw [Zd6]) ?_
  refine ARun.seq (ARun.region ?_); refine zza ?_; refine zza ?_; refine AOps.nil (ARun.seq (ARun.seq (ARun.region ?_))); refine zzm ?_
  refine zzc rfl rfl (hC) ?_
  refine zzm ?_; refine zze ?_; refine zze ?_; refine zza ?_; refine zza ?_; refine AOps.nil (ARun.seq (ARun.region ?_)); refine zzm ?_
  refine y_op rfl (OpQ.cast (d' := .bool (!decide (c.1 = 0))) (q_int rfl rfl rfl) (congrArg D.bool (by rw [Bool.eq_iff_iff]; simp))) ?_
  refine AOps.nil ?_
  refine ARun.cond rfl (fun u => ?_) (fun u => ?_)
  · skip
    have u : ¬ c.1 = 0 := by simpa using u
    rw [if_neg u] at hR
    subst hR
    refine ARun.seq (ARun.region ?_); refine zzm ?_; refine zza ?_; refine zza ?_; refine AOps.nil ?_
    refine ARun.ret ?_
    refine ⟨_, _, _, .tmp rfl (.tmp rfl .nil), .cons (.same _) (.cons (.same _) .nil), rfl, ?_⟩
    rfl
  have u : c.1 = 0 := by simpa using u
  rw [if_pos u] at hR
  subst hR
  refine ARun.skip (ARun.seq (ARun.region ?_)); refine zzm ?_
  refine zzc rfl rfl (PC.g (hA u)) ?_
  refine zzm ?_; refine zze ?_; refine zze ?_; refine zza ?_; refine zza ?_; refine AOps.nil (ARun.seq (ARun.region ?_)); refine zzm ?_; refine zza ?_; refine zza ?_; refine AOps.nil ?_
  refine ARun.ret ?_
  refine ⟨_, _, _, .tmp rfl (.tmp rfl .nil), .cons (.same _) (.cons (.same _) .nil), rfl, ?_⟩
  rfl
theorem Zfu (l : List Pc) (hw : ∀ p ∈ l, PcF p) (hl : l.length ≤ 1099511627776) : PC Cg ZbE [slP l] (fun o => o = .ret (.tup [.bool (sOrd l).1, .int .i64 (sOrd l).2])) := by
  obtain ⟨R, hR⟩ : ∃ R, R = sOrd l := ⟨_, rfl⟩
  rw [← hR]
  unfold sOrd at hR
  have hC := ZdW l hw hl
  have hO := Zd1 l hl
  generalize scheck l = c at *
  generalize sord l 0 = y at *
  refine PC.rn Zbv Zc3 Zc4 (rs := [.tmp 2, .tmp 3]) (by rw [Zc5]) ?_
  refine ARun.seq (ARun.region ?_); refine zza ?_; refine zza ?_; refine AOps.nil (ARun.seq (ARun.seq (ARun.region ?_))); refine zzm ?_
  refine zzc rfl rfl (hC) ?_
  refine zzm ?_; refine zze ?_; refine zze ?_; refine zza ?_; refine zza ?_; refine AOps.nil (ARun.seq (ARun.region ?_)); refine zzm ?_
  refine y_op rfl (OpQ.cast (d' := .bool (!decide (c.1 = 0))) (q_int rfl rfl rfl) (congrArg D.bool (by rw [Bool.eq_iff_iff]; simp))) ?_
  refine AOps.nil ?_
  refine ARun.cond rfl (fun u => ?_) (fun u => ?_)
  · skip
    have u : ¬ c.1 = 0 := by simpa using u
    rw [if_neg u] at hR
    subst hR
    refine ARun.seq (ARun.region ?_); refine zzm ?_; refine zza ?_; refine zza ?_; refine AOps.nil ?_
    refine ARun.ret ?_
    refine ⟨_, _, _, .tmp rfl (.tmp rfl .nil), .cons (.same _) (.cons (.same _) .nil), rfl, ?_⟩
    rfl
  have u : c.1 = 0 := by simpa using u
  rw [if_pos u] at hR
  subst hR
  refine ARun.skip (ARun.seq (ARun.region ?_)); refine zzm ?_
  refine zzc rfl rfl (PC.g hO) ?_
  refine zza ?_; refine zza ?_; refine AOps.nil ?_
  refine ARun.ret ?_
  refine ⟨_, _, _, .tmp rfl (.tmp rfl .nil), .cons (.same _) (.cons (.same _) .nil), rfl, ?_⟩
  rfl
end Go.V
set_option maxHeartbeats 8000000
set_option maxRecDepth 100000
set_option synthInstance.maxSize 100000
set_option synthInstance.maxHeartbeats 2000000
namespace Go.V
open Go.RowKit Go.Proofs
theorem enc_ascii {c : Nat} (h : c < 128) : Utf8.encode (c : Int) = bytesOf [c] := by
  have : ∀ c : _root_.Fin 128, Utf8.encode (c.val : Int) = bytesOf [c.val] := by decide
  exact this ⟨c, h⟩
theorem ZgA {C : Ctx} {env : List D} {H : Heap} {dst : Option Tmp} {x : Operand} {ty : TypeId} {pos : String} {aft : Array Edge} {gd : Option (Nat × Bool)} {k : IntKind} {c : Nat} {src T : TypeId} (hs : (C.P.underlying src).isSome = true) (hd : C.P.underlying T = some .string) (hx : evO C env x = some (.int k (c : Int))) (h : c < 128) :
    OpQ C ⟨dst, .convert src T x, ty, pos, aft, gd⟩ env H (.str (bytesOf [c])) :=
  OpQ.of_run fun L w μ a he => by
    have ex := he _ _ hx
    simp only [VR] at ex
    refine ⟨.string (bytesOf [c]), ?_, by simp only [VR]⟩
    simp only [execOp, ex, Sem.run_bind, run_convert_int_string w src T k (c : Int) hs hd, Result.andThen_ok, Sem.run_pure, enc_ascii h]
theorem sclass_ascii {c : Nat} (h : c < 256) (hc : sclass c ≠ 0) : c < 128 := by
  have : ∀ c : _root_.Fin 256, sclass c.val ≠ 0 → c.val < 128 := by decide
  exact this ⟨c, h⟩ hc
theorem svalid_conv {p : Pc} (h : svalid p = true) (hs : spl p = false) : sclass p.conv ≠ 0 := by
  unfold svalid at h
  rw [hs, cond_false] at h
  intro e
  rw [decide_eq_true e] at h
  simp at h
theorem ZeK (p : Pc) (ord : Bool) (ha : 0 ≤ p.arg ∧ p.arg ≤ 64) (hwd : 0 ≤ p.wid ∧ p.wid ≤ 10000) (hln : 0 ≤ p.len ∧ p.len ≤ 11) (hc : p.conv < 128) : PC Cg ZcH [pcA p, .bool ord] (fun o => o = .ret (.str (bytesOf (sconv p (!ord))))) := by
  obtain ⟨R, hR⟩ : ∃ R, R = sconv p (!ord) := ⟨_, rfl⟩
  rw [← hR]
  unfold sconv at hR
  have hna : PC Cg ZbN [.int .i64 p.arg] (fun o => o = .ret (.str (bytesOf (dnum p.arg.toNat)))) := by
    have := Zgw p.arg.toNat (by omega)
    rwa [Int.toNat_of_nonneg ha.1] at this
  have hnw : PC Cg ZbN [.int .i64 p.wid] (fun o => o = .ret (.str (bytesOf (dnum p.wid.toNat)))) := by
    have := Zgw p.wid.toNat (by omega)
    rwa [Int.toNat_of_nonneg hwd.1] at this
  have hda := dnum_len p.arg.toNat
  have hdw := dnum_len p.wid.toNat
  refine PC.rn Za6 Zcv Zcw (rs := [.tmp 4]) (by rw [Zcx]) ?_
  refine ARun.seq (ARun.region ?_); refine zzb ?_; refine zza ?_; refine AOps.nil (ARun.seq (ARun.region ?_)); refine zza ?_; refine AOps.nil (ARun.seq ?_)
  refine ARun.join (S := List Nat) (fun P : List Nat => [(5, .str (bytesOf P)), (8, .any), (9, .any), (10, .any), (11, .any), (12, .any), (13, .any), (14, .any), (15, .any), (16, .any), (17, .any), (18, .any), (19, .any), (20, .any), (21, .any), (22, .any)]) (fun P : List Nat => P.length ≤ 100 ∧ R = P ++ (pWid p ++ (lensN.getD p.len.toNat [] ++ ([p.conv] ++ pSet p)))) (fun run => ?_) ?_
  · skip
    unfold pHead at hR
    refine ARun.block (ARun.seq (ARun.region ?_)); refine zzf ?_; refine zzl ?_
    refine y_op rfl (OpQ.cast (d' := .bool (decide (p.arg = 0))) (q_int rfl rfl rfl) rfl) ?_
    refine zza ?_; refine AOps.nil ?_
    refine ARun.ite rfl (fun e => ?_) (fun e => ?_)
    · skip
      rw [if_pos e] at hR
      refine ARun.region ?_; refine zzm ?_
      refine y_op rfl (OpQ.cast (d' := .str (bytesOf ([37, 42]))) (ZaQ (s := bytesOf [37]) (t := bytesOf [42]) rfl rfl (by rw [bytesOf_size, bytesOf_size]; decide)) rfl) ?_
      refine zza ?_; refine AOps.nil (ARun.inBlock ?_)
      exact ARun.ag (run ([37, 42]) (⟨by simp, hR⟩))
    rw [if_neg e] at hR
    refine ARun.seq (ARun.region ?_); refine zzm ?_; refine zzn ?_; refine zza ?_; refine AOps.nil ?_
    refine ARun.cond rfl (fun f => ?_) (fun f => ?_)
    · skip
      rw [f, cond_true] at hR
      refine ARun.region ?_; refine zzm ?_; refine zzf ?_; refine zzl ?_
      refine zzc rfl rfl (hna) ?_
      refine y_op rfl (OpQ.cast (d' := .str (bytesOf (dnum p.arg.toNat ++ [36]))) (ZaQ (s := bytesOf (dnum p.arg.toNat)) (t := bytesOf [36]) rfl rfl (by rw [bytesOf_size, bytesOf_size]; (try simp only [List.length_append, List.length_cons, List.length_nil]); omega)) (congrArg D.str (bytesOf_append (dnum p.arg.toNat) [36]).symm)) ?_
      refine y_op rfl (OpQ.cast (d' := .str (bytesOf ([37] ++ (dnum p.arg.toNat ++ [36])))) (ZaQ (s := bytesOf [37]) (t := bytesOf (dnum p.arg.toNat ++ [36])) rfl rfl (by rw [bytesOf_size, bytesOf_size]; (try simp only [List.length_append, List.length_cons, List.length_nil]); omega)) (congrArg D.str (bytesOf_append [37] (dnum p.arg.toNat ++ [36])).symm)) ?_
      refine zza ?_; refine AOps.nil (ARun.inBlock ?_)
      exact ARun.ag (run ([37] ++ (dnum p.arg.toNat ++ [36])) (⟨by simp only [List.length_append, List.length_cons, List.length_nil]; omega, by rw [hR]; simp⟩))
    rw [f, cond_false] at hR
    refine ARun.skip (ARun.inBlock ?_)
    exact ARun.ag (run ([37]) (⟨by simp, hR⟩))
  rintro P hj
  try dsimp only at hj ⊢
  obtain ⟨p1, p2⟩ := hj
  clear hR
  refine ARun.seq (ARun.seq (ARun.region ?_)); refine zzf ?_; refine zzl ?_; refine zzi ?_; refine AOps.nil ?_
  refine ARun.join (S := List Nat) (fun P1 : List Nat => [(5, .str (bytesOf P1)), (26, .any), (27, .any), (28, .any), (29, .any), (30, .any)]) (fun P1 : List Nat => P1.length ≤ 20000 ∧ R = P1 ++ (lensN.getD p.len.toNat [] ++ ([p.conv] ++ pSet p))) (fun run => ?_) ?_
  · skip
    unfold pWid at p2
    refine ARun.ite rfl (fun e => ?_) (fun e => ?_)
    · skip
      rw [if_pos e, ← List.append_assoc] at p2
      refine ARun.region ?_; refine zzm ?_; refine zzf ?_; refine zzl ?_
      refine zzc rfl rfl (hnw) ?_
      refine y_op rfl (OpQ.cast (d' := .str (bytesOf (P ++ dnum p.wid.toNat))) (ZaQ (s := bytesOf (P)) (t := bytesOf (dnum p.wid.toNat)) rfl rfl (by rw [bytesOf_size, bytesOf_size]; (try simp only [List.length_append, List.length_cons, List.length_nil]); omega)) (congrArg D.str (bytesOf_append (P) (dnum p.wid.toNat)).symm)) ?_
      refine zza ?_; refine AOps.nil ?_
      exact ARun.ag (run (P ++ dnum p.wid.toNat) (⟨by rw [List.length_append]; omega, p2⟩))
    rw [if_neg e] at p2
    refine ARun.skip ?_
    exact ARun.ag (run (P) (⟨by omega, p2⟩))
  rintro P1 hj
  try dsimp only at hj ⊢
  obtain ⟨r1, r2⟩ := hj
  clear p1 p2
  have hlg := lensA_get p.len.toNat (by omega)
  have hll := lensN_len p.len.toNat
  generalize lensN.getD p.len.toNat [] = LL at *
  refine ARun.seq ?_
  refine ARun.drawnP 11 (fun _ => False) mixC rfl rfl (by kernel_rfl) (fun _ _ h => h.elim) ?_
  refine .op rfl (q_move rfl) ?_
  refine .op rfl (q_fldS rfl rfl rfl (by decide)) ?_
  refine .op rfl (q_load rfl rfl rfl rfl) ?_
  refine .op rfl (Zbs rfl rfl rfl rfl (by omega) (by omega) rfl) ?_
  refine .op rfl (q_load rfl rfl rfl hlg) ?_
  refine .op rfl (q_fldS rfl rfl rfl (by decide)) ?_
  refine .op rfl (q_load rfl rfl rfl rfl) ?_
  refine .op rfl (q_conv rfl rfl rfl (show _ = (p.conv : Int) by rw [IntWalk.i32_in _ (by omega)])) ?_
  refine .op rfl (ZgA (by kernel_rfl) (by kernel_rfl) rfl hc) ?_
  refine .op rfl (OpQ.cast (d' := .str (bytesOf (LL ++ [p.conv]))) (ZaQ (s := bytesOf LL) (t := bytesOf [p.conv]) rfl rfl (by rw [bytesOf_size, bytesOf_size]; (try simp only [List.length_append, List.length_cons, List.length_nil]); omega)) (congrArg D.str (bytesOf_append LL [p.conv]).symm)) ?_
  refine .op rfl (OpQ.cast (d' := .str (bytesOf (P1 ++ (LL ++ [p.conv])))) (ZaQ (s := bytesOf P1) (t := bytesOf (LL ++ [p.conv])) rfl rfl (by rw [bytesOf_size, bytesOf_size]; (try simp only [List.length_append, List.length_cons, List.length_nil]); omega)) (congrArg D.str (bytesOf_append P1 (LL ++ [p.conv])).symm)) ?_
  refine .nil (fun hG => ?_)
  refine zza ?_; refine AOps.nil (ARun.seq (ARun.seq (ARun.region ?_))); refine zzf ?_; refine zzl ?_; refine zzi ?_
  rw [show P1 ++ (LL ++ ([p.conv] ++ pSet p)) = (P1 ++ (LL ++ [p.conv])) ++ pSet p by simp] at r2
  obtain ⟨P2, hP2⟩ : ∃ P2, P2 = P1 ++ (LL ++ [p.conv]) := ⟨_, rfl⟩
  rw [← hP2] at r2
  rw [← hP2]
  have hl2 : P2.length ≤ 30000 := by rw [hP2]; simp only [List.length_append, List.length_cons, List.length_nil]; omega
  clear hP2 r1 hlg hll
  have hst := setTx_len p.set
  refine AOps.nil ?_
  refine ARun.join (S := List Nat) (fun P3 : List Nat => [(5, .str (bytesOf P3)), (6, .any), (7, .any), (45, .any), (46, .any), (47, .any), (48, .any), (49, .any), (50, .any), (51, .any), (52, .any), (53, .any), (54, .any)]) (fun P3 : List Nat => R = P3) (fun run => ?_) ?_
  · skip
    unfold pSet at r2
    refine ARun.ite rfl (fun e => ?_) (fun e => ?_)
    · skip
      rw [if_pos (show p.conv = 91 by omega)] at r2
      refine ARun.seq (ARun.region ?_); refine zzf ?_; refine zzL ?_
      refine zzc rfl rfl (PC.g (ZcL p.set)) ?_
      refine zzm ?_; refine zze ?_; refine zze ?_; refine zza ?_; refine zza ?_; refine AOps.nil (ARun.region ?_); refine zzm ?_; refine zzm ?_
      refine y_op rfl (OpQ.cast (d' := .str (bytesOf ((setTx p.set).1 ++ [93]))) (ZaQ (s := bytesOf ((setTx p.set).1)) (t := bytesOf [93]) rfl rfl (by rw [bytesOf_size, bytesOf_size]; (try simp only [List.length_append, List.length_cons, List.length_nil]); omega)) (congrArg D.str (bytesOf_append ((setTx p.set).1) [93]).symm)) ?_
      refine y_op rfl (OpQ.cast (d' := .str (bytesOf (P2 ++ ((setTx p.set).1 ++ [93])))) (ZaQ (s := bytesOf P2) (t := bytesOf ((setTx p.set).1 ++ [93])) rfl rfl (by rw [bytesOf_size, bytesOf_size]; (try simp only [List.length_append, List.length_cons, List.length_nil]); omega)) (congrArg D.str (bytesOf_append P2 ((setTx p.set).1 ++ [93])).symm)) ?_
      refine zza ?_; refine AOps.nil ?_
      exact ARun.ag (run (P2 ++ ((setTx p.set).1 ++ [93])) (r2))
    rw [if_neg (show ¬ p.conv = 91 by omega), List.append_nil] at r2
    refine ARun.skip ?_
    exact ARun.ag (run (P2) (r2))
  rintro P3 hj
  try dsimp only at hj ⊢
  subst hj
  refine ARun.seq (ARun.region ?_); refine zzm ?_; refine zza ?_; refine AOps.nil ?_
  refine ARun.ret ?_
  refine ⟨_, _, _, .tmp rfl .nil, .cons (.same _) .nil, rfl, ?_⟩
  rfl
end Go.V
