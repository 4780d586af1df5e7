/- Rules for steps and contracts of functions, each proved; no condition. -/
import Derived.Test.YtaglofmanchabaaGreatDoorA07
import Derived.Recover
set_option linter.unusedVariables false
set_option linter.unusedSimpArgs false
set_option linter.unnecessarySimpa false
set_option synthInstance.maxHeartbeats 2000000
set_option synthInstance.maxSize 100000
namespace Go.V
open Go.RowKit Go.Proofs
theorem Zhf (a i : Nat) : a / B ^ i = a / B ^ (i + 1) * B + dig a i := by
  rw [dig, Nat.pow_succ, ← Nat.div_div_eq_div_mul];have := Nat.div_add_mod (a / B ^ i) B;rw [Nat.mul_comm] at this;exact this.symm
theorem Zgd {a b k : Nat} (h : a / k < b / k) : a < b := by
  rcases Nat.lt_or_ge a b with h1 | h1
  · exact h1
  exact absurd (Nat.div_le_div_right (c := k) h1) (by omega)
theorem ln_lt_of {a b : Nat} (h : (lim a).length < (lim b).length) : a < b := by
  rcases Nat.lt_or_ge a b with h1 | h1
  · exact h1
  exact absurd (Zn h1) (by omega)
theorem Zhg {a b : Nat} (h : a < b) : cmpI a b = -1 := by unfold cmpI; rw [if_pos h]
theorem Zfi {a b : Nat} (h : b < a) : cmpI a b = 1 := by unfold cmpI; rw [if_neg (by omega), if_neg (by omega)]
theorem ZiG {a b : Nat} (h : a = b) : cmpI a b = 0 := by unfold cmpI; rw [if_neg (by omega), if_pos h]
theorem ZbI : CmpOK := by
  intro a b hA hB;refine Znr Tryz.func142 Tryz.ntmps142 Tryz.results142 ?_;refine zzs ?_;refine Zq rfl (Zdu rfl rfl rfl) ?_;refine go ?_;refine Znp rfl (fun h1 => ?_) (fun h1 => ?_)
  · skip
    refine go ?_;refine ARun.ret ?_;refine ⟨_, _, _, Znv rfl rfl rfl rfl rfl .nil, .cons (.same _) .nil, rfl, ?_⟩;rw [Zhg (ln_lt_of (by omega))];rfl
  refine go ?_;refine Znp rfl (fun h2 => ?_) (fun h2 => ?_)
  · skip
    refine go ?_;refine ARun.ret ?_;refine ⟨_, _, _, Znv rfl rfl rfl rfl rfl .nil, .cons (.same _) .nil, rfl, ?_⟩;rw [Zfi (ln_lt_of (by omega))];rfl
  have hl : (lim a).length = (lim b).length := by omega
  refine go ?_;refine Ziy rfl rfl rfl rfl (Zlc _ _ (lim a)) ?_ (by rintro _ _ ⟨h, _⟩; cases h);rintro _ _ ⟨h, rfl⟩
  injection h with h
  subst h;refine go ?_;refine Zn1 (n := 3) rfl rfl rfl (ZjN (lim a) hA [21, 22] rfl _ _ _ _ _ (fun i => a / B ^ i = b / B ^ i) (fun o => o = some ⟨[.int .i64 (cmpI a b)], Zg3, 1, true, none⟩) (fun i hi hw => ?_) ?_) ?_ ?_
  · refine ARun.env0 (by simp only [setL, List.zip_cons_cons, List.zip_nil_right, List.set_cons_succ, List.set_cons_zero]; exact rfl) ?_
    have hib : i < (lim b).length := by omega
    have ea := Zhf a i;have eb := Zhf b i;rw [ZiE];refine zzs ?_; refine zza ?_; refine zzu ?_; refine zza ?_; refine AOps.nil ?_;refine ZnU rfl rfl ?_;refine go ?_;refine Za rfl (Zm (i := i) rfl rfl rfl rfl (by omega) (by omega) (Zam (by omega)) (ZM rfl)) ?_;refine Za rfl (ZP rfl rfl rfl (Zaj hib)) ?_;refine go ?_;refine Znp rfl (fun h3 => ?_) (fun h3 => ?_)
    · skip
      refine go ?_;refine ARun.ret ⟨rfl, rfl, _, rfl, ?_⟩;have hlt : a < b := Zgd (k := B ^ i) (by rw [ea, eb, hw]; omega);rw [Zhg hlt]; rfl
    refine go ?_;refine Za rfl (Zm (i := i) rfl rfl rfl rfl (by omega) (by omega) (Zam (by omega)) (ZM rfl)) ?_;refine Za rfl (ZP rfl rfl rfl (Zaj hib)) ?_;refine go ?_;refine Znp rfl (fun h4 => ?_) (fun h4 => ?_)
    · skip
      refine go ?_;refine ARun.ret ⟨rfl, rfl, _, rfl, ?_⟩;have hlt : b < a := Zgd (k := B ^ i) (by rw [ea, eb, hw]; omega);rw [Zfi hlt]; rfl
    refine ARun.skip (ARun.inBlock (ARun.inBlock ?_));refine ARun.nil ⟨rfl, ?_, rfl⟩
    have : dig a i = dig b i := by omega
    rw [ea, eb, hw, this]
  · have e1 := Nat.div_eq_of_lt (ZcV a)
    have e2 := Nat.div_eq_of_lt (ZcV b);rw [← hl] at e2;rw [e1, e2]
  · rintro d H2 ⟨h, hh⟩
    injection h with h
    subst h
    rcases hh with ⟨hw, rfl⟩ | ⟨o, rfl, rfl⟩
    · refine ⟨.ready, rfl, ?_⟩
      rw [Nat.pow_zero, Nat.div_one, Nat.div_one] at hw;rw [ZiG hw];refine ARun.hp (H' := [some ⟨[numD b], Zeh, 1, true, none⟩, some ⟨[.int .i64 0], Zg3, 1, true, none⟩, some ⟨[numD a], Zeh, 1, true, none⟩, defsO, none]) rfl ?_;refine go ?_;refine ARun.ret ?_;exact ⟨⟨_, rfl, rfl, rfl⟩, _, _, _, Znv rfl rfl rfl rfl rfl .nil, .cons (.same _) .nil, rfl, rfl⟩
    refine ⟨.done .ret, rfl, ?_⟩;refine ARun.ret ?_;exact ⟨⟨_, rfl, rfl, rfl⟩, _, _, _, Znv rfl rfl rfl rfl rfl .nil, .cons (.same _) .nil, rfl, rfl⟩
  rintro d H2 ⟨h, _⟩;cases h
instance okNatDec (xs : List Nat) : Decidable (Zed xs) := decidable_of_iff _ Zdd.symm
def okB (xs : List Nat) : Bool := decide (Zed xs)
theorem Zge {xs : List Nat} : okB xs = true ↔ Zed xs := by unfold okB; exact decide_eq_true_iff
theorem okB_not {xs : List Nat} : okB xs = false ↔ ¬ Zed xs := by unfold okB; exact decide_eq_false_iff_not
def numOf : D → Nat
  | .int _ n => n.toNat
  | _ => 0
def badD : D → Bool
  | .sl _ cs => !okB (cs.map numOf)
  | _ => false
theorem numOf_nts (xs : List Nat) : (nts .u32 xs).map numOf = xs := by
  induction xs with
  | nil => rfl
  | cons x xs ih =>
    simp only [nts, List.map_cons] at ih ⊢;rw [ih];simp [numOf]
theorem badD_sln (xs : List Nat) : badD (sln .u32 xs) = !okB xs := by
  simp only [badD];rw [numOf_nts]
theorem ZiU (xs : List Nat) : PC C 218 [sln .u32 xs] (fun o => o = .ret (.bool (!okB xs))) := by
  refine Znr Tryz.func218 Tryz.ntmps218 Tryz.results218 ?_;refine go ?_;refine Zc rfl rfl (ZdK xs (okNatDec xs)) ?_;refine go ?_;refine Zno ?_;rfl
theorem Zc1 (l : List (List Nat)) (n : Nat) (hn : l.length = n) : PC C 141 [.sl n (l.map (sln .u32))] (fun o => (l.all okB = true ∧ o = .ret (.tup [])) ∨ (l.all okB = false ∧ o = .pan (Zen 1))) := by
  have hp : D.pure.pures (l.map (sln .u32)) = true := by
    induction l generalizing n with
    | nil => rfl
    | cons x l ih =>
      simp only [List.map_cons, D.pure.pures, D.pure, Bool.true_and];exact ih _ rfl
  have he : (l.map (sln .u32)).any badD = !l.all okB := by
    clear hp hn
    induction l with
    | nil => rfl
    | cons x l ih => simp only [List.map_cons, List.any_cons, List.all_cons, badD_sln, ih, Bool.not_and]
  refine Znr Tryz.func141 Tryz.ntmps141 Tryz.results141 ?_;refine go ?_;refine Zc rfl rfl (ZkF _ n (by simpa using hn) 218 [] badD rfl (fun d hd => by obtain ⟨xs, _, rfl⟩ := List.mem_map.1 hd; rw [badD_sln]; exact ZiU xs)) ?_;refine zzn ?_;refine Zan rfl (ZQ rfl rfl (ZnI (ZbD _ 1))) (fun hg => ?_) (fun q hq => by obtain ⟨hq, rfl⟩ := hq; exact ⟨_, _, .same _, rfl, .inr ⟨by rw [he, Bool.not_not] at hq; exact hq, rfl⟩⟩);refine AOps.nil ?_;refine ARun.nil ?_;refine ⟨_, _, _, .nil, .nil, rfl, ?_⟩;exact .inl ⟨by rw [he, Bool.not_not] at hg; exact hg, rfl⟩
theorem ZaU (n : Nat) : PC C 153 [numD n] (fun o => ((lim n).length ≤ 1024 ∧ o = .ret (numD n)) ∨ (¬ (lim n).length ≤ 1024 ∧ o = .pan (Zen 2))) := by
  refine Znr Tryz.func153 Tryz.ntmps153 Tryz.results153 ?_;refine ZnG 0 rfl (fun hlen => ?_);rw [Zy] at hlen;refine go ?_;refine Zan rfl (ZQ rfl rfl (ZnI (ZbD _ 2))) (fun hg => ?_) (fun q hq => by obtain ⟨hq, rfl⟩ := hq; exact ⟨_, _, .same _, rfl, .inr ⟨by have := Zj hq; omega, rfl⟩⟩);refine go ?_;refine Zc rfl rfl (ZhB (lim n) (by have := Zh hg; omega)) ?_;refine go ?_;refine Zno ?_;exact .inl ⟨by have := Zh hg; omega, rfl⟩
def outN : Nat ⊕ Int → Out
  | .inl n => .ret (numD n)
  | .inr e => .pan (Zen e)
def resN (xs ys : List Nat) (v : Nat ⊕ Int) : Nat × Int :=
  bif okB xs && okB ys then (match v with
    | .inl n => if (lim n).length ≤ 1024 then (n, 0) else (0, 2)
    | .inr e => (0, e)) else (0, 1)
theorem ZfT {H : Heap} : Fz H .nilsl (numD 0) [] := by
  have : numD 0 = .sl 0 [] := by rw [numD, ZA]; rfl
  rw [this]; exact .nil
theorem Zbz {xs : List Nat} (hu : U32 xs) (h : okB xs = true) : ∃ a, xs = lim a ∧ (lim a).length ≤ 1024 :=
  ⟨val xs, (Zg8 hu (Zge.1 h).2).symm, by rw [Zg8 hu (Zge.1 h).2]; exact (Zge.1 h).1⟩
theorem ZbT (xs ys : List Nat) (hx : U32 xs) (hy : U32 ys) (f : FuncId) (v : Nat ⊕ Int) (hf : ∀ a b, xs = lim a → ys = lim b → (lim a).length ≤ 1024 → (lim b).length ≤ 1024 → PC C f [numD a, numD b] (fun o => o = outN v)) :
    PC C 156 [sln .u32 xs, sln .u32 ys, .agg [.clos f [], .nilfn]] (fun o => o = .ret (.tup [numD (resN xs ys v).1, .int .i64 (resN xs ys v).2])) := by
  have pan : ∀ (e : Int) (env : List D) (o0 : Option AObj), env[6]? = some .nilsl → env[7]? = some (.ptr 1 0) → resN xs ys v = (0, e) → (QFin C [.tmp 6, .cell 7 ZL] fun o x => o.pure = true ∧ o = .ret (.tup [numD (resN xs ys v).1, .int .i64 (resN xs ys v).2])) (.pan (Zen e)) env [o0, some ⟨[.int .i64 0], ZL, 1, true, none⟩] [.fn 140 [.ptr 1 0]] := by
    intro e env o0 h6 h7 hr;refine DC.mono (Zgs _ 0 e) ?_;rintro _ _ ⟨rfl, rfl⟩;exact ⟨_, _, _, .tmp h6 (Znv h7 rfl rfl rfl rfl .nil), .cons ZfT (.cons (.same _) .nil), rfl, by rw [hr]; rfl⟩
  refine Znr Tryz.func156 Tryz.ntmps156 Tryz.results156 ?_;refine zzs ?_;refine Zq rfl (Zdu rfl rfl rfl) ?_;refine zza ?_; refine zzA ?_; refine zzt ?_;refine Zc0 rfl rfl rfl ?_;refine go ?_;refine Za rfl (Zd rfl rfl rfl rfl rfl rfl rfl rfl rfl rfl rfl (by decide) (by decide) rfl) ?_;refine Zan rfl (ZQ rfl rfl (ZnI (Zc1 [xs, ys] 2 rfl))) (fun hg => ?_) (fun q hq => by obtain ⟨hq, rfl⟩ := hq; exact pan 1 _ _ rfl rfl (by simp only [List.all_cons, List.all_nil, Bool.and_true] at hq; simp only [resN, hq, cond_false]));simp only [List.all_cons, List.all_nil, Bool.and_true] at hg;have hres := hg;rw [Bool.and_eq_true] at hg;obtain ⟨a, rfl, la⟩ := Zbz hx hg.1;obtain ⟨b, rfl, lb⟩ := Zbz hy hg.2;have hfa := hf a b rfl rfl la lb
  cases v with
  | inr e =>
    refine go ?_;refine Zan rfl (ZQ (d := .any) (g := False) (KP := fun q => q = Zen e) rfl rfl (hfa.mono fun o ho => .inr ⟨Zen e, rfl, ho⟩)) (fun hg => hg.elim) (fun q hq => by subst hq; exact pan e _ _ rfl rfl (by simp only [resN, hres, cond_true]))
  | inl n =>
    refine go ?_;refine Zc rfl rfl (hfa) ?_;refine Zan rfl (ZQ rfl rfl (ZnI (ZaU n))) (fun hg => ?_) (fun q hq => by obtain ⟨hq, rfl⟩ := hq; exact pan 2 _ _ rfl rfl (by simp only [resN, hres, cond_true, if_neg hq]));refine go ?_;refine ARun.ret ?_;refine DC.mono (Zgr _ 0) ?_;rintro _ _ ⟨rfl, rfl⟩;exact ⟨_, _, _, .tmp rfl (Znv rfl rfl rfl rfl rfl .nil), .cons (.same _) (.cons (.same _) .nil), rfl, by simp only [resN, hres, cond_true, if_pos hg]; rfl⟩
theorem Zca (e0 : Int) : DC C 140 [some ⟨[.int .i64 e0], ZL, 1, true, none⟩] [.ptr 0 0] .returning (fun m' H' => m' = .returning ∧ H' = [some ⟨[.int .i64 e0], ZL, 1, true, none⟩]) := by
  refine DC.of_run Zcq Zdf rfl Zdg (by rw [Zdh]) (fun _ h => by cases h) (by simp only [List.length_cons, List.length_nil, Nat.reduceAdd, Nat.reduceSub, List.replicate_succ, List.replicate_zero, List.cons_append, List.nil_append, recD, Zu, List.set_cons_succ, List.set_cons_zero]; exact rfl) rfl (by simp only [recD, Zu, List.set_cons_succ, List.set_cons_zero]; exact rfl) ?_;refine gn ?_;refine Za rfl (Zf8 (by kernel_rfl) rfl) ?_;refine AOps.nil ?_;refine Znx rfl ?_;refine ARun.skip ?_;refine ARun.nil ?_;exact ⟨rfl, rfl, rfl⟩
theorem ZfU (e0 e : Int) : DC C 140 [some ⟨[.int .i64 e0], ZL, 1, true, none⟩] [.ptr 0 0] (.panicking (Zen e)) (fun m' H' => m' = .recovered (Zen e) ∧ H' = [some ⟨[.int .i64 e], ZL, 1, true, none⟩, some ⟨[.int .i64 e], Zeq, 1, true, none⟩]) := by
  refine DC.of_run Zcq Zdf rfl Zdg (by rw [Zdh]) (fun _ h => by cases h) (by simp only [List.length_cons, List.length_nil, Nat.reduceAdd, Nat.reduceSub, List.replicate_succ, List.replicate_zero, List.cons_append, List.nil_append, recD, Zu, List.set_cons_succ, List.set_cons_zero]; exact rfl) rfl (by simp only [recD, Zu, List.set_cons_succ, List.set_cons_zero]; exact rfl) ?_;refine gn ?_;refine Za rfl (q_ifNe (by kernel_rfl) rfl) ?_;refine AOps.nil ?_;refine Znz rfl ?_;refine gn ?_;refine Za rfl (ZcG rfl rfl rfl) ?_;refine go ?_;refine Znx rfl ?_;refine gn ?_;refine Za rfl (q_nil rfl rfl) ?_;refine zzT ?_; refine AOps.nil ?_;refine ARun.nil ?_;exact ⟨rfl, rfl, rfl⟩
theorem ZkG (a b : Nat) (ha : (lim a).length ≤ 1024) (hb : (lim b).length ≤ 1024) : PC C 255 [numD a, numD b] (fun o => o = outN (if b ≤ a then .inl (a - b) else .inr 3)) := by
  refine Znr Tryz.func255 Tryz.ntmps255 Tryz.results255 ?_;refine go ?_;refine Zc rfl rfl (ZbI a b (by omega) (by omega)) ?_;refine zzi ?_;refine Zan rfl (ZQ rfl rfl (ZnI (ZbD _ 3))) (fun hg => ?_) (fun q hq => by obtain ⟨hq, rfl⟩ := hq; exact ⟨_, _, .same _, rfl, by have := Zj hq; rw [if_neg (fun h => this (by unfold cmpI; repeat' split; all_goals omega))]; rfl⟩);have hg := Zh hg
  have hab : b ≤ a := by
    unfold cmpI at hg
    split at hg <;> omega
  refine go ?_;refine Zc rfl rfl (Zb3 a b (by omega) hab) ?_;refine go ?_;refine Zno ?_;rw [if_pos hab]; try rfl
theorem ZgC (xs ys : List Nat) (hx : U32 xs) (hy : U32 ys) : PC C 104 [sln .u32 xs, sln .u32 ys] (fun o => o = .ret (.tup [numD (resN xs ys (.inl (val xs + val ys))).1, .int .i64 (resN xs ys (.inl (val xs + val ys))).2])) := by
  refine Znr Tryz.func104 Tryz.ntmps104 Tryz.results104 ?_;refine go ?_;refine Zc rfl rfl (ZbT xs ys hx hy 180 (.inl (val xs + val ys)) (fun a b h1 h2 la lb => by subst h1; subst h2; rw [Zl, Zl]; exact ZaI a b (by omega) (by omega))) ?_;refine go ?_;refine ZnA ?_;rfl
theorem ZgD (xs ys : List Nat) (hx : U32 xs) (hy : U32 ys) : PC C 66 [sln .u32 xs, sln .u32 ys] (fun o => o = .ret (.tup [numD (resN xs ys (.inl (val xs * val ys))).1, .int .i64 (resN xs ys (.inl (val xs * val ys))).2])) := by
  refine Znr Tryz.func66 Tryz.ntmps66 Tryz.results66 ?_;refine go ?_;refine Zc rfl rfl (ZbT xs ys hx hy 157 (.inl (val xs * val ys)) (fun a b h1 h2 la lb => by subst h1; subst h2; rw [Zl, Zl]; exact Zd2 a b (by omega) (by omega))) ?_;refine go ?_;refine ZnA ?_;rfl
theorem Ze2 (xs ys : List Nat) (hx : U32 xs) (hy : U32 ys) : PC C 192 [sln .u32 xs, sln .u32 ys] (fun o => o = .ret (.tup [numD (resN xs ys (if val ys ≤ val xs then .inl (val xs - val ys) else .inr 3)).1, .int .i64 (resN xs ys (if val ys ≤ val xs then .inl (val xs - val ys) else .inr 3)).2])) := by
  refine Znr Tryz.func192 Tryz.ntmps192 Tryz.results192 ?_;refine go ?_;refine Zc rfl rfl (ZbT xs ys hx hy 255 (if val ys ≤ val xs then .inl (val xs - val ys) else .inr 3) (fun a b h1 h2 la lb => by subst h1; subst h2; rw [Zl, Zl]; exact ZkG a b la lb)) ?_;refine go ?_;refine ZnA ?_;rfl
theorem ZkH (a b : Nat) (ha : (lim a).length ≤ 1024) (hb : (lim b).length ≤ 1024) (hb0 : 0 < b) : PC C 190 [numD a, numD b] (fun o => o = .ret (.tup [numD (a / b), numD (a % b)])) := by
  refine Znr Tryz.func190 Tryz.ntmps190 Tryz.results190 ?_;refine go ?_;refine Zc rfl rfl (Zmk ZbI 32 (by decide) a b (by omega) (by omega) hb0) ?_;refine go ?_;refine ZnA ?_;rfl
def resD (xs ys : List Nat) : Nat × Nat × Int :=
  bif okB xs && okB ys then (if ys.length = 0 then (0, 0, 8) else (val xs / val ys, val xs % val ys, 0)) else (0, 0, 1)
theorem ZiV (xs ys : List Nat) (hx : U32 xs) (hy : U32 ys) :
    PC C 189 [sln .u32 xs, sln .u32 ys, .agg [.nilfn, .clos 190 []]] (fun o => o = .ret (.tup [numD (resD xs ys).1, numD (resD xs ys).2.1, .int .i64 (resD xs ys).2.2])) := by
  have pan : ∀ (e : Int) (env : List D) (o0 : Option AObj), env[6]? = some .nilsl → env[7]? = some .nilsl → env[8]? = some (.ptr 1 0) → resD xs ys = (0, 0, e) → (QFin C [.tmp 6, .tmp 7, .cell 8 ZL] fun o x => o.pure = true ∧ o = .ret (.tup [numD (resD xs ys).1, numD (resD xs ys).2.1, .int .i64 (resD xs ys).2.2])) (.pan (Zen e)) env [o0, some ⟨[.int .i64 0], ZL, 1, true, none⟩] [.fn 140 [.ptr 1 0]] := by
    intro e env o0 h6 h7 h8 hr;refine DC.mono (Zgs _ 0 e) ?_;rintro _ _ ⟨rfl, rfl⟩;exact ⟨_, _, _, .tmp h6 (.tmp h7 (Znv h8 rfl rfl rfl rfl .nil)), .cons ZfT (.cons ZfT (.cons (.same _) .nil)), rfl, by rw [hr]; rfl⟩
  refine Znr Tryz.func189 Tryz.ntmps189 Tryz.results189 ?_;refine zzs ?_;refine Zq rfl (Zdu rfl rfl rfl) ?_;refine zza ?_; refine zza ?_; refine zzA ?_; refine zzt ?_;refine Zc0 rfl rfl rfl ?_;refine go ?_;refine Za rfl (Zd rfl rfl rfl rfl rfl rfl rfl rfl rfl rfl rfl (by decide) (by decide) rfl) ?_;refine Zan rfl (ZQ rfl rfl (ZnI (Zc1 [xs, ys] 2 rfl))) (fun hg => ?_) (fun q hq => by obtain ⟨hq, rfl⟩ := hq; exact pan 1 _ _ rfl rfl rfl (by simp only [List.all_cons, List.all_nil, Bool.and_true] at hq; simp only [resD, hq, cond_false]));simp only [List.all_cons, List.all_nil, Bool.and_true] at hg;have hres := hg;rw [Bool.and_eq_true] at hg;obtain ⟨a, rfl, la⟩ := Zbz hx hg.1;obtain ⟨b, rfl, lb⟩ := Zbz hy hg.2;refine go ?_;refine Zan rfl (ZQ rfl rfl (ZnI (ZbD _ 8))) (fun hz => ?_) (fun q hq => by obtain ⟨hq, rfl⟩ := hq; exact pan 8 _ _ rfl rfl rfl (by have := Zj hq; simp only [resD, hres, cond_true]; rw [if_pos (by omega)]));have hz := Zh hz;have hb0 : 0 < b := Nat.pos_of_ne_zero (ZB.1 (by omega))
  have hab : resD (lim a) (lim b) = (a / b, a % b, 0) := by
    simp only [resD, hres, cond_true, Zl];rw [if_neg (by omega)]
  refine go ?_;refine Zc rfl rfl (ZkH a b la lb hb0) ?_;refine go ?_;refine Zc rfl rfl ((ZaU (a / b)).mono (fun o ho => (ho.resolve_right (fun h => h.1 (Nat.le_trans (Zn (Nat.div_le_self _ _)) la))).2)) ?_;refine Zr ?_;refine Zc rfl rfl ((ZaU (a % b)).mono (fun o ho => (ho.resolve_right (fun h => h.1 (Nat.le_trans (Zn (Nat.mod_le _ _)) la))).2)) ?_;refine go ?_;refine ARun.ret ?_;refine DC.mono (Zgr _ 0) ?_;rintro _ _ ⟨rfl, rfl⟩;exact ⟨_, _, _, .tmp rfl (.tmp rfl (Znv rfl rfl rfl rfl rfl .nil)), .cons (.same _) (.cons (.same _) (.cons (.same _) .nil)), rfl, by rw [hab]; rfl⟩
theorem ZgE (xs ys : List Nat) (hx : U32 xs) (hy : U32 ys) : PC C 107 [sln .u32 xs, sln .u32 ys] (fun o => o = .ret (.tup [numD (resD xs ys).1, numD (resD xs ys).2.1, .int .i64 (resD xs ys).2.2])) := by
  refine Znr Tryz.func107 Tryz.ntmps107 Tryz.results107 ?_;refine go ?_;refine Zc rfl rfl (ZiV xs ys hx hy) ?_;refine go ?_;refine ARun.ret ?_;refine ⟨_, _, _, .tmp rfl (.tmp rfl (.tmp rfl .nil)), .cons (.same _) (.cons (.same _) (.cons (.same _) .nil)), rfl, ?_⟩;rfl
def resC (xs ys : List Nat) : Int × Int := bif okB xs && okB ys then (cmpI (val xs) (val ys), 0) else (0, 1)
theorem ZiW (xs ys : List Nat) (hx : U32 xs) (hy : U32 ys) : PC C 57 [sln .u32 xs, sln .u32 ys] (fun o => o = .ret (.tup [.int .i64 (resC xs ys).1, .int .i64 (resC xs ys).2])) := by
  have pan : ∀ (e : Int) (env : List D), env[4]? = some (.int .i64 0) → env[5]? = some (.ptr 0 0) → resC xs ys = (0, e) → (QFin C [.tmp 4, .cell 5 ZL] fun o x => o.pure = true ∧ o = .ret (.tup [.int .i64 (resC xs ys).1, .int .i64 (resC xs ys).2])) (.pan (Zen e)) env [some ⟨[.int .i64 0], ZL, 1, true, none⟩] [.fn 140 [.ptr 0 0]] := by
    intro e env h4 h5 hr;refine DC.mono (ZfU 0 e) ?_;rintro _ _ ⟨rfl, rfl⟩;exact ⟨_, _, _, .tmp h4 (Znv h5 rfl rfl rfl rfl .nil), .cons (.same _) (.cons (.same _) .nil), rfl, by rw [hr]; rfl⟩
  refine Znr Tryz.func57 Tryz.ntmps57 Tryz.results57 ?_;refine zzs ?_; refine zza ?_; refine zzA ?_; refine zzt ?_;refine Zc0 rfl rfl rfl ?_;refine go ?_;refine Za rfl (Zd rfl rfl rfl rfl rfl rfl rfl rfl rfl rfl rfl (by decide) (by decide) rfl) ?_;refine Zan rfl (ZQ rfl rfl (ZnI (Zc1 [xs, ys] 2 rfl))) (fun hg => ?_) (fun q hq => by obtain ⟨hq, rfl⟩ := hq; exact pan 1 _ rfl rfl (by simp only [List.all_cons, List.all_nil, Bool.and_true] at hq; simp only [resC, hq, cond_false]));simp only [List.all_cons, List.all_nil, Bool.and_true] at hg;have hres := hg;rw [Bool.and_eq_true] at hg;obtain ⟨a, rfl, la⟩ := Zbz hx hg.1;obtain ⟨b, rfl, lb⟩ := Zbz hy hg.2;refine go ?_;refine Zc rfl rfl (ZbI a b (by omega) (by omega)) ?_;refine go ?_;refine ARun.ret ?_;refine DC.mono (Zca 0) ?_;rintro _ _ ⟨rfl, rfl⟩;exact ⟨_, _, _, .tmp rfl (Znv rfl rfl rfl rfl rfl .nil), .cons (.same _) (.cons (.same _) .nil), rfl, by simp only [resC, hres, cond_true, Zl]; rfl⟩
theorem Zfu (n : Nat) (hn : n < 18446744073709551616) : PC C 188 [.int .u64 (n : Int)] (fun o => o = .ret (numD n)) := by
  refine Znr Tryz.func188 Tryz.ntmps188 Tryz.results188 ?_;refine go ?_;refine Zc rfl rfl (Zf7 n hn) ?_;refine go ?_;refine Zno ?_;rfl
open Go.RowKit
instance (priority := low) AppL.any {α : Type} {l : List α} {a : α} : AppL l a l.length (l ++ [a]) := ⟨rfl, rfl⟩
instance (priority := low) PutL.any {α : Type} {l : List α} {i : Nat} {a : α} : PutL l i a (l.set i a) := ⟨rfl⟩
section
variable {C : Ctx} {env : List D} {H : Heap} {dst : Option Tmp} {ty : TypeId} {pos : String} {aft : Array Edge} {gd : Option (Nat × Bool)} {x y z : Operand} {d : D} {T : TypeId}
theorem Zjs {cs : List D} (hp : D.pure.pures cs = true) {j : Nat} {d : D} (hd : cs[j]? = some d) : d.pure = true := by
  have key : ∀ (l : List D) (j : Nat), D.pure.pures l = true → l[j]? = some d → d.pure = true := by
    intro l
    induction l with
    | nil => intro j _ h; simp at h
    | cons c l ih =>
      intro j h hj;simp only [D.pure.pures, Bool.and_eq_true] at h
      cases j with
      | zero => simp at hj; subst hj; exact h.1
      | succ j => simp only [List.getElem?_cons_succ] at hj; exact ih j h.2 hj
  exact key cs j hp hd
theorem q_boxF {ds : List D} (hx : evO C env x = some d) (hd : Z7 d = some ds) (hk : ds.all (Zai H) = true) (hp : D.pure.pures ds = true) : OpQ C ⟨dst, .box T x, ty, pos, aft, gd⟩ env H (.sptr ds) :=
  OpQ.newF (e := T) fun L0 w μ a hs he => by
    have ex := he _ _ hx;obtain ⟨v1, v2⟩ := Zbb hd hk ex;refine ⟨.pointer (some ⟨w.heap.size, 0, none⟩), (a.eval x).cells, by simp [execOp, Instr.box, newVar, newRow], fun hl => ?_⟩;simp only [VR];refine ⟨⟨w.heap.size, 0, none⟩, rfl, by simp, fun hfb => Nat.lt_irrefl _ (hs.forb_lt hfb), Zfa fun j d hd => ?_⟩;obtain ⟨v, k1, k2⟩ := Z2 v1 hd;refine ⟨v, ?_, v2 v (List.mem_of_getElem? k1), VR.step (hl.step L0).pure (VR.drop (Zjs hp hd) k2)⟩;rw [Nat.zero_add, Zek, ZfI (heap_alloc_new w _)]
    simpa using k1
theorem q_ifEq {U T' T : TypeId} (hi : isIf C.P U = true) (hx : evO C env x = some (.iface T d)) : OpQ C ⟨dst, .binOp .eql U x (.const .nilIface) T', ty, pos, aft, gd⟩ env H (.bool false) :=
  OpQ.of_run fun L w μ a he => by
    have ex := he _ _ hx;simp only [VR] at ex;obtain ⟨u, ex, _⟩ := ex;refine ⟨.bool false, ?_, by simp only [VR]⟩
    have hg : (eqGuard .eql U x (.const .nilIface) (.iface T u) .nilIface).run C.P w = .ok () w := by
      unfold eqGuard; simp
    have ec : a.eval (.const .nilIface) = .nilIface := rfl;simp only [execOp, ex, ec, Sem.run_bind, hg, Result.andThen_ok, run_ifEq w hi T u, Sem.run_pure]
theorem ZeJ {U T' : TypeId} (hi : isIf C.P U = true) (hx : evO C env x = some .niliface) : OpQ C ⟨dst, .binOp .eql U x (.const .nilIface) T', ty, pos, aft, gd⟩ env H (.bool true) :=
  OpQ.of_run fun L w μ a he => by
    have ex := he _ _ hx;simp only [VR] at ex;refine ⟨.bool true, ?_, by simp only [VR]⟩
    have hg : (eqGuard .eql U x (.const .nilIface) .nilIface .nilIface).run C.P w = .ok () w := by
      unfold eqGuard; simp
    have ec : a.eval (.const .nilIface) = .nilIface := rfl;simp only [execOp, ex, ec, Sem.run_bind, hg, Result.andThen_ok, run_ifEqNil w hi, Sem.run_pure]
end
theorem ZnP {C : Ctx} {f : FuncId} {fn : Func} {id : Nat} {c2 : Code} {args : List D} {H : Heap} {m : AMode} {R : AMode → Heap → Prop} {n : Nat} {t1 : Tmp} {ty1 : TypeId} {p1 : String} {a1 : Array Edge} {at1 : Array TypeId} {env1 : List D}
    (hf : C.P.funcs[f]? = some fn) (hen : Enters C.P f) (hb : fn.body = some (.seq (.region id #[⟨some t1, .call ⟨.builtin .recover, #[], at1⟩, ty1, p1, a1, none⟩] false) c2)) (hn : fn.ntmps = n) (hres : fn.results.toList = [])
    (hm : ∀ d, m ≠ .recovered d) (he1 : Zu (args ++ List.replicate (n - args.length) (.tup [])) (some t1) (recD m).1 = env1)
    (h : ARun C ⟨none, fun x _ H' df => df = [] ∧ match x with | .ret => R (recD m).2 H' | .norm => R (recD m).2 H' | _ => False⟩ [.code c2] env1 H []) : DC C f H args m R := by
  refine ⟨hen, fun L0 w μ vs u hs ha hu c₀ cs hc₀ => ?_⟩;have hl := ZJ ha
  let b : Frame := { (default : Frame) with fn := f, kind := .deferred }
  let a : Act := { tmps := vs.toArray ++ Array.replicate (fn.ntmps - vs.toArray.size) undef, defers := [] }
  have henter : Frame.enter C.P f vs.toArray .deferred = b.at a [.code (.seq (.region id #[⟨some t1, .call ⟨.builtin .recover, #[], at1⟩, ty1, p1, a1, none⟩] false) c2)] := by
    simp [Frame.enter, Frame.at, hf, hb, b, a]
  have htm : VRs w (forb L0 μ H) μ H (args ++ List.replicate (n - args.length) (.tup [])) a.tmps.toList := by
    have : a.tmps.toList = vs ++ List.replicate (n - args.length) undef := by
      simp [a, hn, hl]
    rw [this];exact Zbt ha (Zg1 _)
  have hrec : ∃ (v : Value) (u' : FrameMode), VR w (forb L0 μ H) μ H (recD m).1 v ∧ ModeR w (forb L0 μ H) μ H (recD m).2 u' ∧
      (match recoverD (c₀ :: cs) with | some (v, cs') => (v, cs') | none => (.nilIface, c₀ :: cs)) = (v, { c₀ with mode := u' } :: cs) := by
    cases m with
    | returning =>
      have hu' : u = .returning := hu;subst hu';refine ⟨.nilIface, .returning, by simp [recD, VR], rfl, ?_⟩
      have : c₀ = { c₀ with mode := .returning } := by rw [← hc₀]
      simp only [recoverD, hc₀];rw [← this]
    | panicking d =>
      obtain ⟨v, hu', hvd⟩ := hu;subst hu';refine ⟨v, .panicking [{ v := v, recovered := true }], hvd, ⟨v, rfl, hvd⟩, ?_⟩;simp only [recoverD, hc₀, pan1]
    | recovered d => exact (hm d rfl).elim
  obtain ⟨v, u', hv, hu', hrd⟩ := hrec
  let aa : Act := a.put (some t1) v
  have hv1 : VRs w (forb L0 μ H) μ H env1 (a.put (some t1) v).tmps.toList := by rw [← he1]; exact ZbL htm hv
  have hstep : ∃ e a' cs' w', (e = .normal ∧ a' = aa ∧ cs' = { c₀ with mode := u' } :: cs ∧ w' = w) ∧ Arrives C.P (lone (b.at a (.inRegion #[⟨some t1, .call ⟨.builtin .recover, #[], at1⟩, ty1, p1, a1, none⟩] [0] :: [.code c2])) (c₀ :: cs) w) b [.code c2] cs' e a' w' := by
    refine wp_opsS (P := C.P) (Q := fun e a' cs' w' => e = .normal ∧ a' = aa ∧ cs' = { c₀ with mode := u' } :: cs ∧ w' = w) [0] a (c₀ :: cs) w ?_ b [.code c2] rfl rfl
    have hro : ∀ (w : World), (execOp a.eval ⟨some t1, .call ⟨.builtin .recover, #[], at1⟩, ty1, p1, a1, none⟩).run C.P w = .ok .recover w := by
      intro w; simp [execOp, resolve, invoke, builtin]
    have fin : ∀ cs', cs' = { c₀ with mode := u' } :: cs → wpOpsS C.P #[⟨some t1, .call ⟨.builtin .recover, #[], at1⟩, ty1, p1, a1, none⟩] (fun e a' cs' w' => e = .normal ∧ a' = aa ∧ cs' = { c₀ with mode := u' } :: cs ∧ w' = w) [] (a.put (some t1) v) cs' w := by
      intro cs' hcs;simp [wpOpsS, hcs, aa]
    cases hrr : recoverD (c₀ :: cs) with
    | none =>
      rw [hrr] at hrd
      injection hrd with h1 h2
      subst h1;have := fin (c₀ :: cs) h2
      simpa [wpOpsS, Region.wanted, hro, hrr] using this
    | some p =>
      obtain ⟨pv, pcs⟩ := p;rw [hrr] at hrd
      injection hrd with h1 h2
      subst h1;have := fin pcs h2
      simpa [wpOpsS, Region.wanted, hro, hrr] using this
  obtain ⟨e0, a0, cs0, w0, ⟨q1, q2, q3, q4⟩, harr⟩ := hstep;rw [q1, q2, q3, q4] at harr;obtain ⟨e, a', w', ⟨x, env, H', μ', df, ⟨hdf, hR⟩, s1, hv', hd', hx', he'⟩, harr2⟩ := h.out L0 w μ H w μ aa hs hv1 rfl (Evo.refl _ _ _) b ({ c₀ with mode := u' } :: cs) rfl;subst hdf;have hd0 : a'.defers = [] := hd'
  have hsteps : Steps C.P (lone (b.at a [.code (.seq (.region id #[⟨some t1, .call ⟨.builtin .recover, #[], at1⟩, ty1, p1, a1, none⟩] false) c2)]) (c₀ :: cs) w) (lone (b.at aa [.code c2]) ({ c₀ with mode := u' } :: cs) w) :=
    Steps.trans (.one step_seq) (Steps.trans (.one step_region) harr)
  rw [← henter] at hsteps;have eAt : b.atR aa [.code c2] = b.at aa [.code c2] := Frame.atR_of_none rfl _ _;rw [← eAt] at hsteps;obtain ⟨rv, r1, _⟩ := ZgJ s1 hv' (fn := fn) (ds := []) (by rw [hres]; exact .nil);have hmode : ModeR w' (forb L0 μ' H') μ' H' (recD m).2 u' := hu'.step (he'.step L0)
  cases x with
  | ret =>
    have hx2 : e = .ret := hx';subst hx2;obtain ⟨k, hst⟩ := harr2;exact ⟨.returned rv, u', w', { b.atR a' (.code .ret :: k) with mode := .returning }, ⟨rv, (recD m).2, H', μ', rfl, hR, s1, hmode, he'⟩, Steps.trans hsteps (Steps.trans hst (.one (stepR_ret rfl))), rfl, rfl, hd0, fn, hf, r1⟩
  | norm =>
    have hx2 : e = .normal := hx';subst hx2;exact ⟨.returned rv, u', w', { b.atR a' [] with mode := .returning }, ⟨rv, (recD m).2, H', μ', rfl, hR, s1, hmode, he'⟩, Steps.trans hsteps (Steps.trans harr2 (.one (stepR_end rfl))), rfl, rfl, hd0, fn, hf, r1⟩
  | exit id => exact hR.elim
  | pan d => exact hR.elim
theorem Zh3 {C : Ctx} {env : List D} {H : Heap} {dst : Option Tmp} {ty : TypeId} {pos : String} {aft : Array Edge} {gd : Option (Nat × Bool)} {x : Operand} : OpQ C ⟨dst, .assign x, ty, pos, aft, gd⟩ env H .any :=
  OpQ.of_run fun L w μ a hx => ⟨a.eval x, by simp [execOp], by simp only [VR]⟩
theorem Znq {C : Ctx} {o : Oper} {env : List D} {H : Heap} {d d' : D} (h : OpQ C o env H d) (e : d = d') : OpQ C o env H d' := e ▸ h
theorem zzb {C : Ctx} {Q : Post} {ops : Array Oper} {rest : List Oper} {k : List Item} {env env' : List D} {H : Heap} {df : List ADef} {dst : Option Tmp} {ty : TypeId} {pos : String} {aft : Array Edge} {gd : Option (Nat × Bool)} {d : D} {x : Operand} {T : TypeId} {ds : List D} [hput : Put env dst (.sptr ds) env'] (hk : AOps C Q ops rest k env' H df) (hg : gOk ops.toList env gd = some true := by rfl) (hx : evO C env x = some d := by rfl) (hd : Z7 d = some ds := by rfl) (hok : ds.all (Zai H) = true := by rfl) (hp : D.pure.pures ds = true := by rfl) : AOps C Q ops (⟨dst, .box T x, ty, pos, aft, gd⟩ :: rest) k env H df := Za hg (q_boxF hx hd hok hp) hk
abbrev Zdw (e : Int) : D := .iface Zfp (.agg [.int .i64 e])
theorem Zc6 (ok : Bool) (e : Int) : PC C 182 [.bool ok, .int .i64 e] (fun o => (ok = true ∧ o = .ret (.tup [])) ∨ (ok = false ∧ o = .pan (Zdw e))) := by
  refine Znr Tryz.func182 Tryz.ntmps182 Tryz.results182 ?_;refine go ?_;refine ARun.cond rfl (fun h => ?_) (fun h => ?_)
  · skip
    refine gn ?_;refine Za rfl (ZH rfl rfl rfl) ?_;exact Zix rfl rfl ⟨_, _, .same _, rfl, .inr ⟨by simpa using h, rfl⟩⟩
  refine ARun.skip ?_;refine ARun.nil ?_;refine ⟨_, _, _, .nil, .nil, rfl, ?_⟩;exact .inl ⟨by simpa using h, rfl⟩
theorem Zj2 (n : Nat) (e : Int) : PC C 242 [numD n, .int .i64 e] (fun o => (e = 0 ∧ o = .ret (numD n)) ∨ (e ≠ 0 ∧ o = .pan (Zdw e))) := by
  refine Znr Tryz.func242 Tryz.ntmps242 Tryz.results242 ?_;refine go ?_;refine Zan rfl (ZQ rfl rfl (ZnI (Zc6 _ e))) (fun hg => ?_) (fun q hq => by obtain ⟨hq, rfl⟩ := hq; exact ⟨_, _, .same _, rfl, .inr ⟨by simpa using hq, rfl⟩⟩);refine go ?_;refine Zno ?_;exact .inl ⟨by simpa using hg, rfl⟩
theorem Zc7 (n : Nat) : PC C 242 [numD n, .int .i64 0] (fun o => o = .ret (numD n)) := (Zj2 n 0).mono fun o ho => (ho.resolve_right (fun h => h.1 rfl)).2
abbrev intA (b : Bool) (xs : List Nat) : D := .agg [.bool b, sln .u32 xs]
abbrev intD (z : Int) : D := .agg [.bool (decide (z < 0)), numD z.natAbs]
def sgnd (b : Bool) (n : Nat) : Int := bif b then -(n : Int) else n
theorem Zw (b : Bool) (n : Nat) : (sgnd b n).natAbs = n := by cases b <;> simp [sgnd]
theorem ZaO (b : Bool) (n : Nat) : decide (sgnd b n < 0) = (b && decide (0 < n)) := by
  cases b with
  | true => simp [sgnd]
  | false => simp only [sgnd, cond_false, Bool.false_and]; exact decide_eq_false (by omega)
theorem ZaM (b : Bool) (n : Nat) : PC C 187 [.bool b, numD n] (fun o => o = .ret (intD (sgnd b n))) := by
  have fin : ∀ c : Bool, c = (b && decide (0 < n)) → D.agg [.bool c, numD n] = intD (sgnd b n) := fun c hc => by rw [intD, Zw, ZaO, hc]
  refine Znr Tryz.func187 Tryz.ntmps187 Tryz.results187 ?_;refine zzs ?_; refine zzA ?_; refine zzt ?_; refine Zr ?_; refine Zr ?_;refine AOps.bool 6 rfl (fun h => ?_) (fun h => ?_)
  · skip
    refine go ?_;refine Zns ?_;rw [← fin (decide (((lim n).length : Int) > 0)) (by rw [h, Bool.true_and]; exact decide_eq_decide.2 ⟨fun h => by have := ZB.1 (show 0 < (lim n).length by omega); omega, fun h => by have := ZB.2 (show n ≠ 0 by omega); omega⟩)]
    try rfl
  refine go ?_;refine Zns ?_;rw [← fin false (by rw [h]; rfl)]
  try rfl
theorem ZaE {a : Nat} (h : (lim a).length ≤ 1024) : okB (lim a) = true := Zge.2 ⟨h, Zkk a⟩
theorem Zhh {a b : Nat} {v : Nat ⊕ Int} (ha : (lim a).length ≤ 1024) (hb : (lim b).length ≤ 1024) : resN (lim a) (lim b) v = (match v with
    | .inl n => if (lim n).length ≤ 1024 then (n, 0) else (0, 2)
    | .inr e => (0, e)) := by
  unfold resN; rw [ZaE ha, ZaE hb]; rfl
theorem ZiX (a b : Nat) (ha : (lim a).length ≤ 1024) (hb : (lim b).length ≤ 1024) : PC C 243 [numD a, numD b] (fun o => o = .ret (.int .i64 (cmpI a b))) := by
  have hc : resC (lim a) (lim b) = (cmpI a b, 0) := by rw [resC, ZaE ha, ZaE hb, Zl, Zl]; rfl
  refine Znr Tryz.func243 Tryz.ntmps243 Tryz.results243 ?_;refine go ?_;refine Zc rfl rfl (ZiW (lim a) (lim b) (Zz a) (Zz b)) ?_;refine go ?_;refine Zno ?_;rw [hc]; try rfl
theorem ZkI (z : Int) : PC C 245 [intD z] (fun o => o = .ret (intD (-z))) := by
  refine Znr Tryz.func245 Tryz.ntmps245 Tryz.results245 ?_;refine go ?_;refine zzb ?_;refine go ?_;refine Zc rfl rfl (ZaM _ z.natAbs) ?_;refine go ?_;refine Zns ?_
  have : sgnd (!decide (z < 0)) z.natAbs = -z := by
    by_cases h : z < 0
    · simp only [sgnd, decide_eq_true h, Bool.not_true, cond_false]; omega
    simp only [sgnd, decide_eq_false h, Bool.not_false, cond_true]; omega
  rw [this]; try rfl
abbrev fitZ (z : Int) : Prop := (lim z.natAbs).length ≤ 1024
theorem must_add {a b n : Nat} (ha : (lim a).length ≤ 1024) (hb : (lim b).length ≤ 1024) : PC C 242 [numD (resN (lim a) (lim b) (.inl n)).1, .int .i64 (resN (lim a) (lim b) (.inl n)).2] (fun o => ((lim n).length ≤ 1024 ∧ o = .ret (numD n)) ∨ ∃ p, (¬ (lim n).length ≤ 1024 ∧ p = Zdw 2) ∧ o = .pan p) := by
  rw [Zhh ha hb]
  by_cases h : (lim n).length ≤ 1024
  · simp only [if_pos h]
    exact (Zc7 n).mono fun o ho => .inl ⟨h, ho⟩
  simp only [if_neg h]
  exact (Zj2 0 2).mono fun o ho => .inr ⟨Zdw 2, ⟨h, rfl⟩, (ho.resolve_left (fun h => absurd h.1 (by decide))).2⟩
theorem must_addZ {x y : Int} (hx : fitZ x) (hy : fitZ y) (ha : (x + y).natAbs = x.natAbs + y.natAbs) : PC C 242 [numD (resN (lim x.natAbs) (lim y.natAbs) (.inl (val (lim x.natAbs) + val (lim y.natAbs)))).1, .int .i64 (resN (lim x.natAbs) (lim y.natAbs) (.inl (val (lim x.natAbs) + val (lim y.natAbs)))).2] (fun o => (fitZ (x + y) ∧ o = .ret (numD (x.natAbs + y.natAbs))) ∨ ∃ p, (¬ fitZ (x + y) ∧ p = Zdw 2) ∧ o = .pan p) := by
  rw [Zl, Zl, fitZ, ha];exact must_add hx hy
theorem must_sub {a b : Nat} (ha : (lim a).length ≤ 1024) (hb : (lim b).length ≤ 1024) (h : b ≤ a) : PC C 242 [numD (resN (lim a) (lim b) (if val (lim b) ≤ val (lim a) then .inl (val (lim a) - val (lim b)) else .inr 3)).1, .int .i64 (resN (lim a) (lim b) (if val (lim b) ≤ val (lim a) then .inl (val (lim a) - val (lim b)) else .inr 3)).2] (fun o => o = .ret (numD (a - b))) := by
  rw [Zhh ha hb, Zl, Zl, if_pos h];have : (lim (a - b)).length ≤ 1024 := Nat.le_trans (Zn (Nat.sub_le _ _)) ha;simp only [if_pos this];exact Zc7 _
theorem ZiY (x y : Int) (hx : fitZ x) (hy : fitZ y) : PC C 176 [intD x, intD y] (fun o => (fitZ (x + y) ∧ o = .ret (intD (x + y))) ∨ (¬ fitZ (x + y) ∧ o = .pan (Zdw 2))) := by
  refine Znr Tryz.func176 Tryz.ntmps176 Tryz.results176 ?_;refine go ?_;refine zzb ?_; refine zzb ?_;refine gn ?_;refine Za rfl (Zdm rfl rfl rfl) ?_;refine go ?_;refine ARun.cond rfl (fun h => ?_) (fun h => ?_)
  · skip
    have hs : sgnd (decide (x < 0)) (x.natAbs + y.natAbs) = x + y := by
      have h' : decide (x < 0) = decide (y < 0) := by simpa using h
      by_cases h0 : x < 0
      · have : y < 0 := by rw [decide_eq_true h0] at h'; exact Zh h'.symm
        simp only [sgnd, decide_eq_true h0, cond_true]; omega
      have : ¬ y < 0 := by rw [decide_eq_false h0] at h'; exact Zj h'.symm
      simp only [sgnd, decide_eq_false h0, cond_false]; omega
    have ha : (x + y).natAbs = x.natAbs + y.natAbs := by rw [← hs, Zw]
    refine ARun.seq ?_;refine ZnJ 11 (fun q => ¬ fitZ (x + y) ∧ q = Zdw 2) mixC rfl rfl (by kernel_rfl) (fun _ _ h => ⟨_, _, .same _, by rw [h.2]; rfl, .inr ⟨h.1, by rw [h.2]⟩⟩) ?_;refine gd ?_;refine .op rfl (Zb rfl rfl (ZgC (lim x.natAbs) (lim y.natAbs) (Zz _) (Zz _))) ?_;refine .op rfl (ZD rfl rfl) ?_;refine .op rfl (ZD rfl rfl) ?_;refine .opP rfl (ZQ (g := fitZ (x + y)) (d := numD (x.natAbs + y.natAbs)) rfl rfl (must_addZ hx hy ha)) ?_;refine .op rfl (Zb rfl rfl (ZaM _ _)) ?_;refine .nil (fun hG => ?_);refine go ?_;refine Zns ?_;rw [hs];exact .inl ⟨hG.2, rfl⟩
  refine go ?_;refine Zc rfl rfl (ZiX x.natAbs y.natAbs hx hy) ?_;refine go ?_;refine Znp rfl (fun h2 => ?_) (fun h2 => ?_)
  · skip
    have hyx : y.natAbs ≤ x.natAbs := by unfold cmpI at h2; repeat' split at h2; all_goals omega
    refine ARun.seq ?_;refine zdr 11 mixC ?_;refine gd ?_;refine .op rfl (Zb rfl rfl (Ze2 (lim x.natAbs) (lim y.natAbs) (Zz _) (Zz _))) ?_;refine .op rfl (ZD rfl rfl) ?_;refine .op rfl (ZD rfl rfl) ?_;refine .op rfl (Zb rfl rfl (must_sub hx hy hyx)) ?_;refine .op rfl (Zb rfl rfl (ZaM _ _)) ?_;refine .nil (fun hG => ?_);refine go ?_;refine Zns ?_
    have hs : sgnd (decide (x < 0)) (x.natAbs - y.natAbs) = x + y := by
      have h' : ¬ decide (x < 0) = decide (y < 0) := by simpa using h
      by_cases h0 : x < 0
      · have : ¬ y < 0 := fun h1 => h' (by rw [decide_eq_true h0, decide_eq_true h1])
        simp only [sgnd, decide_eq_true h0, cond_true]; omega
      have : y < 0 := by apply Classical.byContradiction; intro h1; exact h' (by rw [decide_eq_false h0, decide_eq_false h1])
      simp only [sgnd, decide_eq_false h0, cond_false]; omega
    have ha : (x + y).natAbs = x.natAbs - y.natAbs := by rw [← hs, Zw]
    rw [hs];exact .inl ⟨by rw [fitZ, ha]; exact Nat.le_trans (Zn (Nat.sub_le _ _)) hx, rfl⟩
  have hxy : x.natAbs ≤ y.natAbs := by unfold cmpI at h2; repeat' split at h2; all_goals omega
  refine go ?_;refine zdr 11 mixC ?_;refine gd ?_;refine .op rfl (Zb rfl rfl (Ze2 (lim y.natAbs) (lim x.natAbs) (Zz _) (Zz _))) ?_;refine .op rfl (ZD rfl rfl) ?_;refine .op rfl (ZD rfl rfl) ?_;refine .op rfl (Zb rfl rfl (must_sub hy hx hxy)) ?_;refine .op rfl (Zb rfl rfl (ZaM _ _)) ?_;refine .nil (fun hG => ?_);refine go ?_;refine Zns ?_
  have hs : sgnd (decide (y < 0)) (y.natAbs - x.natAbs) = x + y := by
    have h' : ¬ decide (x < 0) = decide (y < 0) := by simpa using h
    by_cases h0 : x < 0
    · have : ¬ y < 0 := fun h1 => h' (by rw [decide_eq_true h0, decide_eq_true h1])
      simp only [sgnd, decide_eq_false this, cond_false]; omega
    have : y < 0 := by apply Classical.byContradiction; intro h1; exact h' (by rw [decide_eq_false h0, decide_eq_false h1])
    simp only [sgnd, decide_eq_true this, cond_true]; omega
  have ha : (x + y).natAbs = y.natAbs - x.natAbs := by rw [← hs, Zw]
  rw [hs];exact .inl ⟨by rw [fitZ, ha]; exact Nat.le_trans (Zn (Nat.sub_le _ _)) hy, rfl⟩
theorem Zj3 (xs : List Nat) (hx : xs.length ≤ 35184372088832) : PC C 179 [sln .u32 xs] (fun o => o = .ret (sln .u32 xs)) := by
  refine Znr Tryz.func179 Tryz.ntmps179 Tryz.results179 ?_;refine zzs ?_; refine zza ?_; refine AOps.nil (ARun.seq (zzs ?_)); refine Zr ?_;refine Zl8 rfl rfl rfl rfl rfl (fun b hb => ?_);refine AOps.nil ?_;refine ARun.cond rfl (fun h => ?_) (fun h => ?_)
  · skip
    refine go ?_;refine ARun.ret ?_;refine ⟨_, _, _, .tmp rfl .nil, .cons .nil .nil, rfl, ?_⟩;rw [sl_nil (hb h)];rfl
  refine ARun.skip (zzs ?_);refine Zq rfl (Z9 rfl rfl rfl rfl rfl rfl rfl rfl rfl rfl rfl (by decide) (by decide)) ?_;refine Zr ?_;refine Zq rfl (Zdn rfl rfl (by decide) rfl rfl rfl rfl rfl rfl rfl rfl rfl rfl (by simp) (by simp; omega) (by rw [Zy]; omega) rfl) ?_;refine go ?_;refine ARun.ret ?_;refine ⟨_, _, _, .tmp rfl .nil, .cons (.row rfl (ZT _)) .nil, rfl, ?_⟩;simp [tupD]
theorem Zj4 (z : Int) (hz : (lim z.natAbs).length ≤ 35184372088832) : PC C 175 [intD z] (fun o => o = .ret (intD z)) := by
  refine Znr Tryz.func175 Tryz.ntmps175 Tryz.results175 ?_;refine go ?_;refine zzb ?_;refine go ?_;refine zdr 6 mixC ?_;refine gd ?_;refine .op rfl (Zb rfl rfl (Zj3 (lim z.natAbs) hz)) ?_;refine .op rfl (Zal rfl rfl rfl rfl rfl) ?_;refine .nil (fun hG => ?_);refine go ?_;refine Zns ?_;rfl
theorem Zld (z : Int) (hz : fitZ z) : PC C 175 [intD z] (fun o => o = .ret (intD z)) := Zj4 z (by unfold fitZ at hz; omega)
theorem must_mul {x y : Int} (hx : fitZ x) (hy : fitZ y) : PC C 242 [numD (resN (lim x.natAbs) (lim y.natAbs) (.inl (val (lim x.natAbs) * val (lim y.natAbs)))).1, .int .i64 (resN (lim x.natAbs) (lim y.natAbs) (.inl (val (lim x.natAbs) * val (lim y.natAbs)))).2] (fun o => (fitZ (x * y) ∧ o = .ret (numD (x.natAbs * y.natAbs))) ∨ ∃ p, (¬ fitZ (x * y) ∧ p = Zdw 2) ∧ o = .pan p) := by
  rw [Zl, Zl, fitZ, Int.natAbs_mul];exact must_add hx hy
theorem ZkJ (x y : Int) (hx : fitZ x) (hy : fitZ y) : PC C 233 [intD x, intD y] (fun o => (fitZ (x * y) ∧ o = .ret (intD (x * y))) ∨ (¬ fitZ (x * y) ∧ o = .pan (Zdw 2))) := by
  have hs : sgnd (!(decide (x < 0) == decide (y < 0))) (x.natAbs * y.natAbs) = x * y := by
    rw [← Int.natAbs_mul]
    by_cases h1 : x < 0 <;> by_cases h2 : y < 0
    · have := Int.mul_pos_of_neg_of_neg h1 h2
      simp only [sgnd, decide_eq_true h1, decide_eq_true h2, beq_self_eq_true, Bool.not_true, cond_false]; omega
    · have := Int.mul_nonpos_of_nonpos_of_nonneg (Int.le_of_lt h1) (Int.not_lt.1 h2)
      simp only [sgnd, decide_eq_true h1, decide_eq_false h2, show (!(true == false)) = true from rfl, cond_true]; omega
    · have := Int.mul_nonpos_of_nonneg_of_nonpos (Int.not_lt.1 h1) (Int.le_of_lt h2)
      simp only [sgnd, decide_eq_false h1, decide_eq_true h2, show (!(false == true)) = true from rfl, cond_true]; omega
    have := Int.mul_nonneg (Int.not_lt.1 h1) (Int.not_lt.1 h2);simp only [sgnd, decide_eq_false h1, decide_eq_false h2, beq_self_eq_true, Bool.not_true, cond_false]; omega
  refine Znr Tryz.func233 Tryz.ntmps233 Tryz.results233 ?_;refine go ?_;refine zzb ?_; refine zzb ?_;refine go ?_;refine ZnJ 14 (fun q => ¬ fitZ (x * y) ∧ q = Zdw 2) mixC rfl rfl (by kernel_rfl) (fun _ _ h => ⟨_, _, .same _, by rw [h.2]; rfl, .inr ⟨h.1, by rw [h.2]⟩⟩) ?_;refine zdf ?_;refine zdl ?_;refine zdf ?_;refine zdl ?_;refine .op rfl (Zbu rfl rfl rfl) ?_;refine gd ?_;refine .op rfl (Zb rfl rfl (ZgD (lim x.natAbs) (lim y.natAbs) (Zz _) (Zz _))) ?_;refine .op rfl (ZD rfl rfl) ?_;refine .op rfl (ZD rfl rfl) ?_;refine .opP rfl (ZQ (g := fitZ (x * y)) (d := numD (x.natAbs * y.natAbs)) rfl rfl (must_mul hx hy)) ?_;refine .op rfl (Zb rfl rfl (ZaM _ _)) ?_;refine .nil (fun hG => ?_);refine go ?_;refine Zns ?_;rw [hs];exact .inl ⟨hG.2, rfl⟩
def Zee : List (Bool × List Nat) → List D
  | [] => []
  | p :: l => .bool p.1 :: sln .u32 p.2 :: Zee l
theorem Zjt : ∀ l : List (Bool × List Nat), (Zee l).length = l.length * 2
  | [] => rfl
  | p :: l => by simp only [Zee, List.length_cons, Zjt l]; omega
theorem Zih : ∀ (l : List (Bool × List Nat)) (i : Nat), (Zee l).drop (i * 2) = Zee (l.drop i)
  | l, 0 => by simp
  | [], i + 1 => by simp [Zee]
  | p :: l, i + 1 => by
    rw [show (i + 1) * 2 = i * 2 + 1 + 1 by omega];simp only [Zee, List.drop_succ_cons];exact Zih l i
def idxI (p : Bool × List Nat → Bool) : List (Bool × List Nat) → Nat → Int
  | [], _ => -1
  | d :: ds, i => bif p d then (i : Int) else idxI p ds (i + 1)
theorem idxI_any (p : Bool × List Nat → Bool) : ∀ (ds : List (Bool × List Nat)) (i : Nat), decide (idxI p ds i ≥ 0) = ds.any p
  | [], _ => by simp [idxI]
  | d :: ds, i => by
    simp only [idxI, List.any_cons];have ih := idxI_any p ds (i + 1)
    by_cases h : p d = true
    · simp [h]
    simp only [Bool.not_eq_true] at h;simp only [h, cond_false, Bool.false_or];exact ih
theorem Zmn (l : List (Bool × List Nat)) (n : Nat) (hn : l.length = n) (f : FuncId) (p : Bool × List Nat → Bool) (hf : ∀ d ∈ l, PC C f [intA d.1 d.2] (fun o => o = .ret (.bool (p d)))) : PC C 316 [.sl n (Zee l), .clos f []] (fun o => o = .ret (.int .i64 (idxI p l 0))) := by
  refine Znr Tryz.func316 Tryz.ntmps316 Tryz.results316 ?_;refine ZnG 0 rfl (fun hlen => ?_);rw [Zy] at hlen;refine go ?_;refine Znw (S := Nat) (fun i : Nat => [(4, .any), (5, .any), (9, .any), (10, .any), (11, .any), (12, .any), (13, .any), (14, .any), (15, .any), (16, .any), (17, .any), (18, .any), (8, .int .i64 (i : Int))]) (fun i : Nat => []) (fun i : Nat => i ≤ n ∧ idxI p (l.drop i) i = idxI p l 0) (fun i : Nat => n - i) (0) ?_ ?_
  · exact ⟨Nat.zero_le _, rfl⟩
  rintro i hinv ih;obtain ⟨hi, he⟩ := hinv;refine go ?_;refine Znp rfl (fun h => ?_) (fun h => ?_)
  · skip
    have hlt : i < l.length := by omega
    have hdr : l.drop i = l[i] :: l.drop (i + 1) := List.drop_eq_getElem_cons hlt;have hcd := Zih l i;rw [hdr] at hcd
    have hx : idxI p (l.drop i) i = bif p l[i] then (i : Int) else idxI p (l.drop (i + 1)) (i + 1) := by rw [hdr]; rfl
    refine go ?_;refine Za rfl (Zm rfl rfl rfl rfl (by omega) (by omega) (fun e => by have := Zjt l; rw [e] at this; simp at this; omega) hcd) ?_;refine Za rfl (Ze (ds := [.bool l[i].1, sln .u32 l[i].2]) rfl rfl rfl rfl rfl) ?_;refine Zc rfl rfl (hf l[i] (List.getElem_mem hlt)) ?_;refine AOps.nil ?_;refine ARun.cond rfl (fun hp => ?_) (fun hp => ?_)
    · skip
      refine go ?_;refine Zno ?_;rw [← he, hx, hp]
      try rfl
    refine gn ?_;refine Za rfl (Zf rfl rfl (Zi (by omega))) ?_;refine go ?_;refine ARun.ag (ih ((i + 1)) ?_ ?_)
    · exact ⟨by omega, by rw [← he, hx, hp]; rfl⟩
    omega
  refine ARun.exit rfl ?_;refine go ?_;refine Zno ?_;rw [← he, List.drop_of_length_le (by omega)]
  try rfl
theorem ZkK (l : List (Bool × List Nat)) (n : Nat) (hn : l.length = n) (f : FuncId) (p : Bool × List Nat → Bool) (hf : ∀ d ∈ l, PC C f [intA d.1 d.2] (fun o => o = .ret (.bool (p d)))) : PC C 296 [.sl n (Zee l), .clos f []] (fun o => o = .ret (.bool (l.any p))) := by
  refine Znr Tryz.func296 Tryz.ntmps296 Tryz.results296 ?_;refine go ?_;refine Zc rfl rfl (Zmn l n hn f p hf) ?_;refine go ?_;refine Zno ?_;rw [idxI_any]; try rfl
def okI (d : Bool × List Nat) : Bool := okB d.2 && (!d.1 || decide (0 < d.2.length))
theorem ZiZ (d : Bool × List Nat) : PC C 193 [intA d.1 d.2] (fun o => o = .ret (.bool (okI d))) := by
  obtain ⟨b, xs⟩ := d;refine Znr Tryz.func193 Tryz.ntmps193 Tryz.results193 ?_;refine go ?_;refine zzb ?_;refine go ?_;refine Zc rfl rfl (ZdK xs (okNatDec xs)) ?_;refine Zr ?_;refine AOps.bool 6 rfl (fun h1 => ?_) (fun h1 => ?_)
  · skip
    have h1 : okB xs = true := h1;refine zzf ?_; refine zzl ?_; refine zzn ?_; refine Zr ?_;refine AOps.bool 10 rfl (fun h2 => ?_) (fun h2 => ?_)
    · skip
      have h2 : b = false := by simpa using h2
      refine go ?_;refine Zno ?_;unfold okI; rw [h1, h2]; try rfl
    have h2 : b = true := by simpa using h2
    refine go ?_;refine Zno ?_;unfold okI; rw [h1, h2];have : decide ((xs.length : Int) > 0) = decide (0 < xs.length) := decide_eq_decide.2 (by omega);simp only [this, Bool.not_true, Bool.false_or, Bool.true_and, cond_true, cond_false]
    try rfl
  have h1 : okB xs = false := h1;refine go ?_;refine Zno ?_;unfold okI; rw [h1]; try rfl
theorem Zle (d : Bool × List Nat) : PC C 297 [intA d.1 d.2] (fun o => o = .ret (.bool (!okI d))) := by
  refine Znr Tryz.func297 Tryz.ntmps297 Tryz.results297 ?_;refine go ?_;refine zzb ?_;refine go ?_;refine Zc rfl rfl (ZiZ d) ?_;refine go ?_;refine Zno ?_;rfl
theorem Zmo (l : List (Bool × List Nat)) (n : Nat) (hn : l.length = n) : PC C 241 [.sl n (Zee l)] (fun o => (l.all okI = true ∧ o = .ret (.tup [])) ∨ (l.all okI = false ∧ o = .pan (Zdw 1))) := by
  have he : l.any (fun d => !okI d) = !l.all okI := by
    clear hn
    induction l with
    | nil => rfl
    | cons x l ih => simp only [List.any_cons, List.all_cons, ih, Bool.not_and]
  refine Znr Tryz.func241 Tryz.ntmps241 Tryz.results241 ?_;refine go ?_;refine Zc rfl rfl (ZkK l n hn 297 (fun d => !okI d) (fun d _ => Zle d)) ?_;refine zzn ?_;refine Zan rfl (ZQ rfl rfl (ZnI (Zc6 _ 1))) (fun hg => ?_) (fun q hq => by obtain ⟨hq, rfl⟩ := hq; exact ⟨_, _, .same _, rfl, .inr ⟨by rw [he, Bool.not_not] at hq; exact hq, rfl⟩⟩);refine AOps.nil ?_;refine ARun.nil ?_;refine ⟨_, _, _, .nil, .nil, rfl, ?_⟩;exact .inl ⟨by rw [he, Bool.not_not] at hg; exact hg, rfl⟩
abbrev failO (e : Int) : Option AObj := some ⟨[.int .i64 e], Zfp, 1, true, none⟩
abbrev errO (e : Int) : Option AObj := some ⟨[.int .i64 e], ZL, 1, true, none⟩
theorem dcw_ret (H : Heap) (i : Nat) : DC C 240 H [.ptr i 0] .returning (fun m' H' => m' = .returning ∧ H' = H) := by
  refine ZnP ZdD Zfq rfl Zfr (by rw [Zfs]) (fun _ h => by cases h) (by simp only [List.length_cons, List.length_nil, Nat.reduceAdd, Nat.reduceSub, List.replicate_succ, List.replicate_zero, List.cons_append, List.nil_append, recD, Zu, List.set_cons_succ, List.set_cons_zero]; exact rfl) ?_;refine gn ?_;refine Za rfl (ZeJ (by kernel_rfl) rfl) ?_;refine AOps.nil ?_;refine Znz rfl ?_;refine ARun.region ?_; refine zza ?_; refine AOps.nil (ARun.inBlock ?_);refine ARun.nil ?_;exact ⟨rfl, rfl, rfl⟩
theorem dcw_pan (H : Heap) (i : Nat) (e0 e : Int) (h : H[i]? = some (errO e0)) : DC C 240 H [.ptr i 0] (.panicking (Zdw e)) (fun m' H' => m' = .recovered (Zdw e) ∧ H' = ((H ++ [failO e]).set i (errO e) : Heap)) := by
  have hi : i < H.length := (List.getElem?_eq_some_iff.1 h).1
  have hl : (H ++ [failO e])[i]? = some (errO e0) := by rw [List.getElem?_append_left hi]; exact h
  have hn : ∀ o : AObj, (H ++ [some o])[H.length]? = some (some o) := fun o => by simp
  have hs : ∀ o o' : AObj, (H ++ [some o]).set H.length (some o') = H ++ [some o'] := fun o o' => by
    rw [List.set_append_right _ _ (Nat.le_refl _), Nat.sub_self]; rfl
  refine ZnP ZdD Zfq rfl Zfr (by rw [Zfs]) (fun _ h => by cases h) (by simp only [List.length_cons, List.length_nil, Nat.reduceAdd, Nat.reduceSub, List.replicate_succ, List.replicate_zero, List.cons_append, List.nil_append, recD, Zu, List.set_cons_succ, List.set_cons_zero]; exact rfl) ?_;refine gn ?_;refine Za rfl (q_ifEq (by kernel_rfl) rfl) ?_;refine AOps.nil ?_;refine Znx rfl ?_;refine gn ?_;refine Za rfl (ZcG rfl rfl rfl) ?_;refine go ?_;refine Znz rfl ?_;refine zzs ?_; refine zzA ?_;refine Zq rfl (Zb2 rfl rfl rfl rfl rfl rfl (hn _) rfl (Nat.le_of_ble_eq_true rfl) rfl) (AOps.hp (hs _ _) ?_);refine go ?_;refine Za rfl (ZC rfl rfl rfl (hn _) rfl) ?_;refine Za rfl (q_nil rfl rfl) ?_;refine Zq rfl (Zad rfl rfl rfl rfl hl rfl (Nat.le_of_ble_eq_true rfl) rfl) ?_;refine AOps.nil (ARun.inBlock ?_);refine ARun.nil ?_;exact ⟨rfl, rfl, rfl⟩
def outZ : Int ⊕ Int → Out
  | .inl z => .ret (intD z)
  | .inr e => .pan (Zdw e)
def resZ (ok : Bool) (v : Int ⊕ Int) : Int × Int :=
  bif ok then (match v with
    | .inl z => (z, 0)
    | .inr e => (0, e)) else (0, 1)
theorem intD_zero : intD 0 = .agg [.bool false, .sl 0 []] := by
  have : numD 0 = .sl 0 [] := by rw [numD, ZA]; rfl
  show D.agg [.bool (decide ((0 : Int) < 0)), numD 0] = _;rw [this]; rfl
theorem fz_int0 {H : Heap} : Fz H (.agg [.bool false, .nilsl]) (intD 0) [] := by
  rw [intD_zero]; exact .agg (.cons (.same _) (.cons .nil .nil))
theorem Ze3 (l : List (Bool × List Nat)) (n : Nat) (hn : l.length = n) (f : FuncId) (caps : List D) (hc : D.pure.pures caps = true) (v : Int ⊕ Int) (hf : l.all okI = true → PC C f caps (fun o => o = outZ v)) :
    PC C 173 [.clos f caps, .sl n (Zee l)] (fun o => o = .ret (.tup [intD (resZ (l.all okI) v).1, .int .i64 (resZ (l.all okI) v).2])) := by
  have pan : ∀ (e : Int) (env : List D), env[4]? = some (.ptr 0 0) → env[5]? = some (.ptr 1 0) → resZ (l.all okI) v = (0, e) → (QFin C [.cell 4 Zey, .cell 5 ZL] fun o x => o.pure = true ∧ o = .ret (.tup [intD (resZ (l.all okI) v).1, .int .i64 (resZ (l.all okI) v).2])) (.pan (Zdw e)) env [some ⟨[.bool false, .nilsl], Zey, 1, true, none⟩, errO 0] [.fn 240 [.ptr 1 0]] := by
    intro e env h4 h5 hr;refine DC.mono (dcw_pan _ 1 0 e rfl) ?_;rintro _ _ ⟨rfl, rfl⟩;exact ⟨_, _, _, Znt h4 rfl rfl rfl rfl rfl (Znv h5 rfl rfl rfl rfl .nil), .cons fz_int0 (.cons (.same _) .nil), rfl, by rw [hr]; rfl⟩
  refine PC.run ZeC Zhy rfl Zhz (by simp only [D.pure.pures, D.pure, hc, Bool.true_and]) (rs := [.cell 4 60, .cell 5 30]) (by rw [ZhA]) (by simp only [List.length_cons, List.length_nil, Nat.reduceAdd, Nat.reduceSub, List.replicate_succ, List.replicate_zero, List.cons_append, List.nil_append]; exact rfl) ?_;refine zzs ?_; refine zzA ?_; refine zzA ?_; refine zzt ?_;refine Zc0 rfl rfl rfl ?_;refine go ?_;refine Zan rfl (ZQ rfl rfl (ZnI (Zmo l n hn))) (fun hg => ?_) (fun q hq => by obtain ⟨hq, rfl⟩ := hq; exact pan 1 _ rfl rfl (by rw [hq]; rfl));have hfa := hf hg
  cases v with
  | inr e =>
    refine go ?_;refine Zan rfl (ZQ (d := .any) (g := False) (KP := fun q => q = Zdw e) (args := []) rfl rfl (hfa.mono fun o ho => .inr ⟨Zdw e, rfl, ho⟩)) (fun hg => hg.elim) (fun q hq => by subst hq; exact pan e _ rfl rfl (by rw [hg]; rfl))
  | inl z =>
    refine go ?_;refine Za rfl (Zb (args := []) rfl rfl hfa) ?_;refine go ?_;refine ARun.ret ?_;refine DC.mono (dcw_ret _ 1) ?_;rintro _ _ ⟨rfl, rfl⟩;exact ⟨_, _, _, Znt rfl rfl rfl rfl rfl rfl (Znv rfl rfl rfl rfl rfl .nil), .cons (.same _) (.cons (.same _) .nil), rfl, by rw [hg]; rfl⟩
def valI (d : Bool × List Nat) : Int := sgnd d.1 (val d.2)
theorem Zhi {d : Bool × List Nat} (hu : U32 d.2) (h : okI d = true) : ∃ z, d = (decide (z < 0), lim z.natAbs) ∧ fitZ z := by
  obtain ⟨b, xs⟩ := d;simp only [okI, Bool.and_eq_true, Bool.or_eq_true, Bool.not_eq_true'] at h;obtain ⟨a, ha, hl⟩ := Zbz hu h.1;simp only at ha;subst ha;refine ⟨sgnd b a, ?_, ?_⟩
  · rw [Zw, ZaO]
    congr 1
    rcases h.2 with h | h
    · rw [h]; rfl
    have : 0 < a := Nat.pos_of_ne_zero (ZB.1 (Zh h));rw [decide_eq_true this, Bool.and_true]
  rw [fitZ, Zw]; exact hl
theorem Zbm (z : Int) : valI (decide (z < 0), lim z.natAbs) = z := by
  unfold valI;simp only [Zl]
  by_cases h : z < 0
  · simp only [sgnd, decide_eq_true h, cond_true]; omega
  simp only [sgnd, decide_eq_false h, cond_false]; omega
abbrev capZ (z : Int) : D := .sptr [.bool (decide (z < 0)), numD z.natAbs]
noncomputable def fitO (z : Int) : Int ⊕ Int := if fitZ z then .inl z else .inr 2
theorem fitO_t {z : Int} (h : fitZ z) : fitO z = .inl z := by unfold fitO; rw [if_pos h]
theorem fitO_f {z : Int} (h : ¬ fitZ z) : fitO z = .inr 2 := by unfold fitO; rw [if_neg h]
theorem fitZ_neg {z : Int} (h : fitZ z) : fitZ (-z) := by unfold fitZ at *; rw [Int.natAbs_neg]; exact h
theorem ZlM (x y : Int) (hx : fitZ x) (hy : fitZ y) : PC C 174 [capZ x, capZ y] (fun o => o = outZ (fitO (x + y))) := by
  refine Znr Tryz.func174 Tryz.ntmps174 Tryz.results174 ?_;refine zzs ?_; refine zzA ?_; refine zzt ?_; refine zzL ?_
  first
    | refine Za rfl (Zp rfl rfl rfl rfl rfl rfl) ?_
    | refine Za rfl (Ze rfl rfl rfl rfl rfl) ?_
  refine Zan rfl (ZQ rfl rfl (ZnI (ZiY x y hx hy))) (fun hg => ?_) (fun q hq => by obtain ⟨hq, rfl⟩ := hq; exact ⟨_, _, .same _, rfl, by rw [fitO_f hq]; rfl⟩);refine Zc rfl rfl (Zld _ hg) ?_;refine go ?_;refine Zns ?_;rw [fitO_t hg]; try rfl
theorem ZlN (x y : Int) (hx : fitZ x) (hy : fitZ y) : PC C 232 [capZ x, capZ y] (fun o => o = outZ (fitO (x * y))) := by
  refine Znr Tryz.func232 Tryz.ntmps232 Tryz.results232 ?_;refine zzs ?_; refine zzA ?_; refine zzt ?_; refine zzL ?_
  first
    | refine Za rfl (Zp rfl rfl rfl rfl rfl rfl) ?_
    | refine Za rfl (Ze rfl rfl rfl rfl rfl) ?_
  refine Zan rfl (ZQ rfl rfl (ZnI (ZkJ x y hx hy))) (fun hg => ?_) (fun q hq => by obtain ⟨hq, rfl⟩ := hq; exact ⟨_, _, .same _, rfl, by rw [fitO_f hq]; rfl⟩);refine Zc rfl rfl (Zld _ hg) ?_;refine go ?_;refine Zns ?_;rw [fitO_t hg]; try rfl
theorem okI2 {d1 d2 : Bool × List Nat} (h1 : U32 d1.2) (h2 : U32 d2.2) (h : [d1, d2].all okI = true) : ∃ x y, d1 = (decide (x < 0), lim x.natAbs) ∧ fitZ x ∧ d2 = (decide (y < 0), lim y.natAbs) ∧ fitZ y := by
  simp only [List.all_cons, List.all_nil, Bool.and_true, Bool.and_eq_true] at h;obtain ⟨x, e1, f1⟩ := Zhi h1 h.1;obtain ⟨y, e2, f2⟩ := Zhi h2 h.2;exact ⟨x, y, e1, f1, e2, f2⟩
theorem ZmR (d1 d2 : Bool × List Nat) (h1 : U32 d1.2) (h2 : U32 d2.2) : PC C 98 [intA d1.1 d1.2, intA d2.1 d2.2] (fun o => o = .ret (.tup [intD (resZ ([d1, d2].all okI) (fitO (valI d1 + valI d2))).1, .int .i64 (resZ ([d1, d2].all okI) (fitO (valI d1 + valI d2))).2])) := by
  refine Znr Tryz.func98 Tryz.ntmps98 Tryz.results98 ?_;refine go ?_;refine zzb ?_; refine zzb ?_;refine gn ?_;refine Za rfl (ZeG rfl) ?_
  first
    | refine Za rfl (Zp rfl rfl rfl rfl rfl rfl) ?_
    | refine Za rfl (Ze rfl rfl rfl rfl rfl) ?_
  refine zzL ?_;refine Za rfl (Zd rfl rfl rfl rfl rfl rfl rfl rfl rfl rfl rfl (by decide) (by decide) rfl) ?_;refine Zc rfl rfl (Ze3 [d1, d2] 2 rfl 174 [.sptr [.bool d1.1, sln .u32 d1.2], .sptr [.bool d2.1, sln .u32 d2.2]] rfl (fitO (valI d1 + valI d2)) (fun h => by obtain ⟨x, y, rfl, f1, rfl, f2⟩ := okI2 h1 h2 h; rw [Zbm, Zbm]; exact ZlM x y f1 f2)) ?_;refine go ?_;refine ARun.ret ?_;refine ⟨_, _, _, Znt rfl rfl rfl rfl rfl rfl (.tmp rfl .nil), .cons (.same _) (.cons (.same _) .nil), rfl, ?_⟩;rfl
theorem ZmS (d1 d2 : Bool × List Nat) (h1 : U32 d1.2) (h2 : U32 d2.2) : PC C 160 [intA d1.1 d1.2, intA d2.1 d2.2] (fun o => o = .ret (.tup [intD (resZ ([d1, d2].all okI) (fitO (valI d1 * valI d2))).1, .int .i64 (resZ ([d1, d2].all okI) (fitO (valI d1 * valI d2))).2])) := by
  refine Znr Tryz.func160 Tryz.ntmps160 Tryz.results160 ?_;refine go ?_;refine zzb ?_; refine zzb ?_;refine gn ?_;refine Za rfl (ZeG rfl) ?_
  first
    | refine Za rfl (Zp rfl rfl rfl rfl rfl rfl) ?_
    | refine Za rfl (Ze rfl rfl rfl rfl rfl) ?_
  first
    | refine Za rfl (Zp rfl rfl rfl rfl rfl rfl) ?_
    | refine Za rfl (Ze rfl rfl rfl rfl rfl) ?_
  refine Za rfl (Zd rfl rfl rfl rfl rfl rfl rfl rfl rfl rfl rfl (by decide) (by decide) rfl) ?_;refine Zc rfl rfl (Ze3 [d1, d2] 2 rfl 232 [.sptr [.bool d1.1, sln .u32 d1.2], .sptr [.bool d2.1, sln .u32 d2.2]] rfl (fitO (valI d1 * valI d2)) (fun h => by obtain ⟨x, y, rfl, f1, rfl, f2⟩ := okI2 h1 h2 h; rw [Zbm, Zbm]; exact ZlN x y f1 f2)) ?_;refine go ?_;refine ARun.ret ?_;refine ⟨_, _, _, Znt rfl rfl rfl rfl rfl rfl (.tmp rfl .nil), .cons (.same _) (.cons (.same _) .nil), rfl, ?_⟩;rfl
abbrev kkeys : List D := [.int .i64 1, .int .i64 2, .int .i64 3, .int .i64 4]
abbrev kvals : List D := [.agg [.clos 246 []], .agg [.clos 247 []], .agg [.clos 248 []], .agg [.clos 249 []]]
theorem Zi0 : PC C 184 [] (fun o => o = .ret (.mapv kkeys kvals)) := by
  refine Znr Tryz.func184 Tryz.ntmps184 Tryz.results184 ?_;refine zzs ?_;refine Za rfl (Zh3) ?_;refine zzt ?_;refine Zq rfl (ZeI (kt := Zg3) (et := ZbH) (by kernel_rfl) (.inl rfl)) ?_;refine zzB ?_;refine Zq rfl (Zaq (kt := Zg3) (et := ZbH) (.inl rfl) (by kernel_rfl) (by kernel_rfl) rfl rfl rfl rfl rfl) ?_;refine zzB ?_;refine Zq rfl (Zaq (kt := Zg3) (et := ZbH) (.inl rfl) (by kernel_rfl) (by kernel_rfl) rfl rfl rfl rfl rfl) ?_;refine zzB ?_;refine Zq rfl (Zaq (kt := Zg3) (et := ZbH) (.inl rfl) (by kernel_rfl) (by kernel_rfl) rfl rfl rfl rfl rfl) ?_;refine zzB ?_;refine Zq rfl (Zaq (kt := Zg3) (et := ZbH) (.inl rfl) (by kernel_rfl) (by kernel_rfl) rfl rfl rfl rfl rfl) ?_;refine Zr ?_; refine zza ?_; refine AOps.nil ?_;have hz : Fz [mapO (kkeys.zip kvals)] (.mapp 0) (.mapv kkeys kvals) [0] := Fz.map (es := kkeys.zip kvals) rfl rfl rfl rfl;refine ARun.ret ?_;refine ⟨_, _, _, .tmp rfl .nil, .cons hz .nil, rfl, ?_⟩;rfl
def kindF (how : Int) : Option FuncId :=
  if how = 1 then some 246 else if how = 2 then some 247 else if how = 3 then some 248 else if how = 4 then some 249 else none
theorem Zkp (how : Int) : ZeR .i64 how (kkeys.zip kvals) = some ((kindF how).map fun f => .agg [.clos f []]) := by
  unfold kindF
  by_cases h1 : how = 1
  · subst h1; rfl
  by_cases h2 : how = 2
  · subst h2; rfl
  by_cases h3 : how = 3
  · subst h3; rfl
  by_cases h4 : how = 4
  · subst h4; rfl
  have e : ∀ k : Int, how ≠ k → (how == k) = false := fun k h => beq_eq_false_iff_ne.2 h
  simp only [kkeys, kvals, List.zip_cons_cons, List.zip_nil_right, ZeR, e 1 h1, e 2 h2, e 3 h3, e 4 h4, decide_true, cond_true, cond_false, if_neg h1, if_neg h2, if_neg h3, if_neg h4, Option.map_none]
def awayZ (how : Int) (q r a b : Int) : Bool :=
  if how = 2 then !(decide (a < 0) == decide (b < 0)) else if how = 3 then decide (a < 0) else if how = 4 then decide (b.natAbs < 2 * r.natAbs) || (decide (2 * r.natAbs = b.natAbs) && decide (q.natAbs % 2 = 1)) else false
theorem Zni (q r a b : Int) : PC C 248 [intD q, intD r, intD a, intD b] (fun o => o = .ret (.bool (awayZ 3 q r a b))) := by
  refine Znr Tryz.func248 Tryz.ntmps248 Tryz.results248 ?_;refine go ?_;refine zzb ?_; refine zzb ?_; refine zzb ?_; refine zzb ?_;refine go ?_;refine Zno ?_;rfl
theorem ZO : D.sl 1 [.int .u32 1] = numD 1 := by rw [numD, Zbl]; rfl
end Go.V
