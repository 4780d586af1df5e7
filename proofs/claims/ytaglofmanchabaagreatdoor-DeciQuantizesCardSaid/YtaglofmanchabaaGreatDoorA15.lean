/- Rules for steps and contracts of functions, each proved; no condition. -/
import Derived.Test.YtaglofmanchabaaGreatDoorA14
set_option linter.unusedVariables false
set_option linter.unusedSimpArgs false
set_option linter.unnecessarySimpa false
set_option maxHeartbeats 2000000
set_option synthInstance.maxHeartbeats 2000000
set_option synthInstance.maxSize 100000
namespace Go.V
open Go.RowKit Go.Proofs
theorem ZlY (f dir : Int) (a b : Dt) (m n : Nat) (hf : isF f) (ha : dtF f a m) (hb : dtF f b n) : PC C 71 [fmtD f dir, .sl 2 (Z5 [a, b])] (fun o => o = Zim (addO f dir a { b with neg := !b.neg })) := by
  have hA := Zh9 f dir a { b with neg := !b.neg } m n hf ha ⟨hb.co, hb.lt, hb.e1, hb.e2⟩;generalize addO f dir a { b with neg := !b.neg } = oc at hA ⊢
  have hG : PC C 69 [fmtD f dir, .sl 2 (Z5 [a, { b with neg := !b.neg }])] (fun o => (oc.isSome = true ∧ o = .ret (ocD (oc.getD (.sp rsZ)))) ∨ ∃ q, (oc = none ∧ q = invD) ∧ o = .pan q) := hA.mono fun o ho => by
    cases oc with
    | none => exact .inr ⟨_, ⟨rfl, rfl⟩, ho⟩
    | some x => exact .inl ⟨rfl, ho⟩
  refine Znr Tryz.func71 Tryz.ntmps71 Tryz.results71 ?_;refine go ?_;refine zzb ?_;refine go ?_;refine Za rfl (Zm rfl rfl rfl rfl (by decide) (by decide) (by simp [Z5]) rfl) ?_;refine go ?_;refine ZnJ 7 (fun q => oc = none ∧ q = invD) mixC rfl rfl (by kernel_rfl) (fun _ _ h => ⟨_, _, .same _, by rw [h.2]; rfl, by rw [h.1, h.2]; rfl⟩) ?_;refine .op rfl (Ze rfl rfl rfl rfl rfl) ?_;refine zdm ?_;refine .op rfl (Zm rfl rfl rfl rfl (by decide) (by decide) (by simp [Z5]) rfl) ?_;refine .op rfl (Ze rfl rfl rfl rfl rfl) ?_;refine .op rfl (Zp rfl rfl rfl rfl rfl rfl) ?_;refine .op rfl (Zd rfl rfl rfl rfl rfl rfl rfl rfl rfl rfl rfl (by decide) (by decide) rfl) ?_;refine .opP rfl (ZQ (g := oc.isSome = true) (d := ocD (oc.getD (.sp rsZ))) rfl rfl hG) ?_;refine .nil (fun hG => ?_);refine zza ?_; refine AOps.nil ?_
  obtain ⟨x, rfl⟩ : ∃ x, oc = some x := by
    cases oc with
    | none => exact absurd hG.2 (by simp)
    | some x => exact ⟨x, rfl⟩
  cases x
  · skip
    refine Zno ?_;rfl
  refine Zno ?_;rfl
abbrev ZgP : List D := [.int .i64 7, .int .i64 (-101), .int .i64 90, .int .i64 6, .int .i64 20, .int .i64 16, .int .i64 (-398), .int .i64 369, .int .i64 8, .int .i64 50, .int .i64 34, .int .i64 (-6176), .int .i64 6111, .int .i64 12, .int .i64 110]
noncomputable def Cd : Ctx := ⟨C.P, [(0, ZgP)], C.ty, C.ok⟩
def fW (f : Int) : Int := if f = 6 then 6 else if f = 7 then 8 else 12
def fT (f : Int) : Int := if f = 6 then 20 else if f = 7 then 50 else 110
abbrev fmtX (f : Int) : List D := [.int .i64 (fP f : Nat), .int .i64 (fLo f), .int .i64 (fHi f), .int .i64 (fW f), .int .i64 (fT f)]
theorem tab_drop {f : Int} (h : isF f) : (ZgP.drop ((f - 6).toNat * 5)).take 5 = fmtX f := by
  rcases h with rfl | rfl | rfl <;> rfl
theorem Zkc (f : Int) (h : isF f) : PC Cd 151 [.int .i64 f] (fun o => o = .ret (.tup [.agg (fmtX f), .bool true])) := by
  have hf : 6 ≤ f ∧ f ≤ 8 := by unfold isF at h; omega
  refine Znr Tryz.func151 Tryz.ntmps151 Tryz.results151 ?_;refine zzs ?_; refine zzA ?_; refine zza ?_; refine AOps.nil (ARun.seq (zzs ?_)); refine Zr ?_; refine zzi ?_; refine Zr ?_;apply ZnB 6 (fun sj1 => [(6, .any), (7, .any), (8, .any), (9, .bool sj1)]) rfl
  · intro hj1 run1
    try replace hj1 := Zh hj1
    refine Zg ?_; refine Zg ?_; refine ZK ?_;exact AOps.ag run1
  · intro hj1 run1
    try replace hj1 := Zj hj1
    refine Zr ?_; refine zzi ?_; refine ZK ?_;exact AOps.ag run1
  refine AOps.nil ?_;refine ARun.cond rfl (fun hx => ?_) (fun hx => ?_)
  · skip
    simp only [Bool.or_eq_true, decide_eq_true_eq] at hx; omega
  refine gn ?_;refine Za rfl (Zk rfl rfl (IntWalk.i64_in _ (by omega))) ?_;refine Za rfl (Zmi rfl rfl rfl rfl (by omega) (by omega) rfl) ?_;refine Za rfl (Ze (ds := fmtX f) rfl rfl rfl (tab_drop h) rfl) ?_;refine go ?_;refine ARun.ret ?_;refine ⟨_, _, _, Znt rfl rfl rfl rfl rfl rfl (.tmp rfl .nil), .cons (.same _) (.cons (.same _) .nil), rfl, ?_⟩;rfl
theorem ZlZ (f : Int) (h : ¬ isF f) : PC Cd 151 [.int .i64 f] (fun o => o = .ret (.tup [.agg [.int .i64 0, .int .i64 0, .int .i64 0, .int .i64 0, .int .i64 0], .bool false])) := by
  have hf : ¬ (6 ≤ f ∧ f ≤ 8) := by unfold isF at h; omega
  refine Znr Tryz.func151 Tryz.ntmps151 Tryz.results151 ?_;refine zzs ?_; refine zzA ?_; refine zza ?_; refine AOps.nil (ARun.seq (zzs ?_)); refine Zr ?_; refine zzi ?_; refine Zr ?_;apply ZnB 6 (fun sj1 => [(6, .any), (7, .any), (8, .any), (9, .bool sj1)]) rfl
  · intro hj1 run1
    try replace hj1 := Zh hj1
    refine Zg ?_; refine Zg ?_; refine ZK ?_;exact AOps.ag run1
  · intro hj1 run1
    try replace hj1 := Zj hj1
    refine Zr ?_; refine zzi ?_; refine ZK ?_;exact AOps.ag run1
  refine AOps.nil ?_;refine ARun.cond rfl (fun hx => ?_) (fun hx => ?_)
  · skip
    refine go ?_;refine ARun.ret ?_;refine ⟨_, _, _, Znt rfl rfl rfl rfl rfl rfl (.tmp rfl .nil), .cons (.same _) (.cons (.same _) .nil), rfl, ?_⟩;rfl
  simp only [Bool.or_eq_false_iff, decide_eq_false_iff_not] at hx; omega
theorem ZkT (f : Int) (h : isF f) : PC Cd 64 [.int .i64 f] (fun o => o = .ret (.tup [.int .i64 (fP f : Nat), .int .i64 (fLo f), .int .i64 (fHi f), .int .i64 0])) := by
  refine Znr Tryz.func64 Tryz.ntmps64 Tryz.results64 ?_;refine go ?_;refine Zc rfl rfl (Zkc f h) ?_;refine ga ?_;refine ZI rfl rfl rfl rfl rfl rfl rfl rfl rfl rfl rfl ?_;refine go ?_;refine Znx rfl ?_;refine go ?_;refine zdr 8 mixC ?_;refine zdf ?_;refine zdl ?_;refine zdf ?_;refine zdl ?_;refine zdf ?_;refine zdl ?_;refine .op rfl (Za4 rfl) ?_;refine .op rfl (Za4 rfl) ?_;refine .nil (fun hG => ?_);refine go ?_;refine ARun.ret ?_;refine ⟨_, _, _, .tmp rfl (.tmp rfl (.tmp rfl (.tmp rfl .nil))), .cons (.same _) (.cons (.same _) (.cons (.same _) (.cons (.same _) .nil))), rfl, ?_⟩;rfl
theorem Zls (n : Nat) (h : n ≤ 9799) : PC C 299 [.int .i64 (n : Int)] (fun o => o = .ret (numD (10 ^ n))) := by
  refine Znr Tryz.func299 Tryz.ntmps299 Tryz.results299 ?_;refine gn ?_;refine Za rfl (Znq (Zd rfl rfl rfl rfl rfl rfl rfl rfl rfl rfl rfl (by decide) (by decide) rfl) ZeT) ?_;refine Zr ?_;refine Zc rfl rfl (nTen n h) ?_;refine go ?_;refine Zno ?_;rfl
theorem Zia (a k : Nat) (ha : (lim a).length ≤ 1024) (hk : k ≤ 9799) : PC C 263 [numD a, .int .i64 (k : Int)] (fun o => o = .ret (.bool (decide (a < 10 ^ k)))) := by
  have hc : decide (cmpI a (10 ^ k) < 0) = decide (a < 10 ^ k) := decide_eq_decide.2 (by unfold cmpI; (repeat' split) <;> omega);refine Znr Tryz.func263 Tryz.ntmps263 Tryz.results263 ?_;refine go ?_;refine Zc rfl rfl (Zls k hk) ?_;refine Zc rfl rfl (nCmp a (10 ^ k) ha (fitT hk)) ?_;refine go ?_;refine Zno ?_;rw [← hc]; try rfl
def okV (f c e : Int) (n len : Nat) : Bool :=
  if c = 1 then decide (n < 10 ^ fP f) && decide (fLo f ≤ e) && decide (e ≤ fHi f)
  else if c = 2 then decide (len = 0) && decide (e = 0)
  else if c = 3 ∨ c = 4 then decide (n < 10 ^ (fP f - 1)) && decide (e = 0) else false
def okD (d : Dt) : Bool := decide (6 ≤ d.fmt) && decide (d.fmt ≤ 8) && okB d.coef && okV d.fmt d.cls d.exp (val d.coef) d.coef.length
theorem nat0 (n : Nat) : (((n : Nat) : Int) == 0) = decide (n = 0) := by
  cases n with
  | zero => rfl
  | succ n => rw [decide_eq_false (by omega)]; exact beq_eq_false_iff_ne.2 (by omega)
theorem Zgg (a b : Int) : (a == b) = decide (a = b) := rfl
theorem ZkU (f c e : Int) (ng : Bool) (xs : List Nat) (hu : U32 xs) (hf : isF f) : PC Cd 199 [dtD ⟨f, c, ng, xs, e⟩] (fun o => o = .ret (.int .i64 (if okB xs && okV f c e (val xs) xs.length then 0 else 1))) := by
  have hp := ZW f;have hV : PC Cd 219 [sln .u32 xs] (fun o => o = .ret (.bool (okB xs))) := PC.gl (ZdK xs inferInstance);refine Znr Tryz.func199 Tryz.ntmps199 Tryz.results199 ?_;refine go ?_;refine zzb ?_;refine go ?_;refine Zc rfl rfl (Zkc f hf) ?_;refine ga ?_;refine ZI rfl rfl rfl rfl rfl rfl rfl rfl rfl rfl rfl ?_;refine zza ?_; refine AOps.nil (ARun.seq (zzs ?_)); refine Zr ?_; refine zzn ?_; refine Zr ?_;apply ZnB 13 (fun sj1 => [(13, .any), (14, .any), (15, .any), (16, .any), (17, .any), (18, .bool sj1)]) rfl
  · intro hj1 run1
    try replace hj1 := Zh hj1
    refine Zg ?_; refine Zg ?_; refine Zg ?_; refine Zg ?_; refine ZK ?_;exact AOps.ag run1
  · intro hj1 run1
    try replace hj1 := Zj hj1
    refine go ?_;refine Zc rfl rfl (hV) ?_;refine zzn ?_; refine ZK ?_;exact AOps.ag run1
  refine AOps.nil ?_;refine ARun.cond rfl (fun h => ?_) (fun h => ?_)
  · skip
    have h : okB xs = false := by simpa using h
    refine go ?_;refine Zno ?_;rw [h]; try rfl
  have h : okB xs = true := by simpa using h
  obtain ⟨n, rfl, hl⟩ := Zbz hu h;have hB1 : PC Cd 263 [numD n, .int .i64 (fP f : Nat)] (fun o => o = .ret (.bool (decide (n < 10 ^ fP f)))) := PC.gl (Zia n (fP f) hl (by omega));have hB2 : PC Cd 263 [numD n, .int .i64 ((fP f - 1 : Nat) : Int)] (fun o => o = .ret (.bool (decide (n < 10 ^ (fP f - 1))))) := PC.gl (Zia n (fP f - 1) hl (by omega));rw [h, Bool.true_and, Zl];refine ARun.skip (ARun.seq (zzs ?_)); refine zzf ?_; refine zzl ?_; refine AOps.nil (ARun.block (zzs ?_)); refine zzi ?_; refine zza ?_; refine AOps.nil ?_;refine Zny (S := Bool) (fun u : Bool => [(23, .any), (24, .any), (25, .any), (26, .any), (27, .any), (28, .any), (29, .any), (30, .any), (31, .any), (32, .any), (33, .any), (34, .any), (35, .any), (36, .any), (37, .any), (38, .any), (39, .any), (40, .any), (41, .any), (42, .any), (43, .any), (44, .any), (45, .any), (46, .any), (47, .any), (48, .any), (49, .any), (50, .any), (51, .any), (52, .any), (53, .any), (54, .any), (55, .any), (56, .any), (57, .any), (58, .any), (59, .any), (60, .any), (61, .any), (62, .any), (63, .any), (64, .any), (65, .any), (66, .any), (4, .bool u)]) (fun u : Bool => u = okV f c e n (lim n).length) (fun run => ?_) ?_
  · skip
    refine ARun.cond rfl (fun c1 => ?_) (fun c1 => ?_)
    · skip
      have c1 : c = 1 := by simpa using c1
      refine go ?_;refine Zc rfl rfl (hB1) ?_;refine Zr ?_;apply Znu 28 (fun sj2 => [(28, .any), (29, .any), (30, .any), (31, .any), (32, .any), (33, .any), (34, .bool sj2)]) rfl
      · intro hj2 run2
        try replace hj2 := Zh hj2
        refine zzf ?_; refine zzl ?_; refine zzf ?_; refine zzl ?_; refine zzi ?_; refine ZK ?_;exact AOps.ag run2
      · intro hj2 run2
        try replace hj2 := Zj hj2
        refine Zg ?_; refine Zg ?_; refine Zg ?_; refine Zg ?_; refine Zg ?_; refine ZK ?_;exact AOps.ag run2
      refine Zr ?_;apply Znu 35 (fun sj3 => [(35, .any), (36, .any), (37, .any), (38, .any), (39, .any), (40, .any), (41, .bool sj3)]) rfl
      · intro hj3 run3
        try replace hj3 := Zh hj3
        refine zzf ?_; refine zzl ?_; refine zzf ?_; refine zzl ?_; refine zzi ?_; refine ZK ?_;exact AOps.ag run3
      · intro hj3 run3
        try replace hj3 := Zj hj3
        refine Zg ?_; refine Zg ?_; refine Zg ?_; refine Zg ?_; refine Zg ?_; refine ZK ?_;exact AOps.ag run3
      refine zza ?_; refine AOps.nil ?_;exact ARun.ag (run (decide (n < 10 ^ fP f) && decide (e ≥ fLo f) && decide (e ≤ fHi f)) (by unfold okV; rw [if_pos c1]))
    have c1 : ¬ c = 1 := by simpa using c1
    refine go ?_;refine ARun.cond rfl (fun c2 => ?_) (fun c2 => ?_)
    · skip
      have c2 : c = 2 := by simpa using c2
      refine ARun.region ?_; refine zzf ?_; refine zzl ?_; refine zzN ?_; refine zzi ?_; refine Zr ?_;apply Znu 48 (fun sj4 => [(48, .any), (49, .any), (50, .any), (51, .any), (52, .bool sj4)]) rfl
      · intro hj4 run4
        try replace hj4 := Zh hj4
        refine zzf ?_; refine zzl ?_; refine zzi ?_; refine ZK ?_;exact AOps.ag run4
      · intro hj4 run4
        try replace hj4 := Zj hj4
        refine Zg ?_; refine Zg ?_; refine Zg ?_; refine ZK ?_;exact AOps.ag run4
      refine zza ?_; refine AOps.nil ?_;exact ARun.ag (run (((((lim n).length : Nat) : Int) == 0) && (e == 0)) (by unfold okV; rw [if_neg c1, if_pos c2, nat0]; rfl))
    have c2 : ¬ c = 2 := by simpa using c2
    refine ARun.seq (zzs ?_); refine zzi ?_; refine zza ?_; refine AOps.nil ?_;refine Zny (S := Bool) (fun u : Bool => [(55, .any), (53, .bool u)]) (fun u : Bool => u = decide (c = 3 ∨ c = 4)) (fun run => ?_) ?_
    · skip
      refine ARun.cond rfl (fun c3 => ?_) (fun c3 => ?_)
      · skip
        have c3 : c = 3 := by simpa using c3
        refine ARun.skip ?_;exact ARun.ag (run (c == 3) (by rw [Zgg]; exact decide_eq_decide.2 ⟨.inl, fun _ => c3⟩))
      have c3 : ¬ c = 3 := by simpa using c3
      refine ARun.region ?_; refine zzi ?_; refine zza ?_; refine AOps.nil ?_;exact ARun.ag (run (c == 4) (by rw [Zgg]; exact decide_eq_decide.2 ⟨.inr, fun h => h.resolve_left c3⟩))
    rintro u hj
    try dsimp only at hj ⊢
    refine ARun.cond rfl (fun c5 => ?_) (fun c5 => ?_)
    · skip
      have c5 : c = 3 ∨ c = 4 := Zh (hj ▸ c5);refine gn ?_;refine Za rfl (Zk rfl rfl (ZY (by omega) (by omega))) ?_;refine Zc rfl rfl (hB2) ?_;refine Zr ?_;apply Znu 62 (fun sj5 => [(62, .any), (63, .any), (64, .any), (65, .any), (66, .bool sj5)]) rfl
      · intro hj5 run5
        try replace hj5 := Zh hj5
        refine zzf ?_; refine zzl ?_; refine zzi ?_; refine ZK ?_;exact AOps.ag run5
      · intro hj5 run5
        try replace hj5 := Zj hj5
        refine Zg ?_; refine Zg ?_; refine Zg ?_; refine ZK ?_;exact AOps.ag run5
      refine zza ?_; refine AOps.nil ?_;exact ARun.ag (run (decide (n < 10 ^ (fP f - 1)) && (e == 0)) (by unfold okV; rw [if_neg c1, if_neg c2, if_pos c5]; rfl))
    have c5 : ¬ (c = 3 ∨ c = 4) := Zj (hj ▸ c5);refine ARun.region ?_; refine zza ?_; refine AOps.nil ?_;exact ARun.ag (run (false) (by unfold okV; rw [if_neg c1, if_neg c2, if_neg c5]))
  rintro u hj
  try dsimp only at hj ⊢
  rw [← hj];refine go ?_;refine ARun.cond rfl (fun hk => ?_) (fun hk => ?_)
  · skip
    have hk : u = false := by simpa using hk
    refine go ?_;refine Zno ?_;rw [hk]; try rfl
  have hk : u = true := by simpa using hk
  refine go ?_;refine Zno ?_;rw [hk]; try rfl
theorem ZkV (f c e : Int) (ng : Bool) (xs : List Nat) (hf : ¬ isF f) : PC Cd 199 [dtD ⟨f, c, ng, xs, e⟩] (fun o => o = .ret (.int .i64 1)) := by
  refine Znr Tryz.func199 Tryz.ntmps199 Tryz.results199 ?_;refine go ?_;refine zzb ?_;refine go ?_;refine Zc rfl rfl (ZlZ f hf) ?_;refine ga ?_;refine ZI rfl rfl rfl rfl rfl rfl rfl rfl rfl rfl rfl ?_;refine go ?_;refine Znz rfl ?_;refine go ?_;refine Zno ?_;rfl
theorem Zlt (d : Dt) (hu : U32 d.coef) : PC Cd 199 [dtD d] (fun o => o = .ret (.int .i64 (if okD d then 0 else 1))) := by
  obtain ⟨f, c, ng, xs, e⟩ := d
  by_cases hf : isF f
  · have hf2 : 6 ≤ f ∧ f ≤ 8 := by unfold isF at hf; omega
    refine (ZkU f c e ng xs hu hf).mono fun o ho => ?_
    rw [ho]; unfold okD; rw [decide_eq_true hf2.1, decide_eq_true hf2.2]; rfl
  refine (ZkV f c e ng xs hf).mono fun o ho => ?_
  have : okD ⟨f, c, ng, xs, e⟩ = false := by
    unfold okD
    have h2 : ¬ (6 ≤ f ∧ f ≤ 8) := by unfold isF at hf; omega
    have h3 : (decide (6 ≤ f) && decide (f ≤ 8)) = false := by simp; omega
    show (decide (6 ≤ f) && decide (f ≤ 8) && _ && _) = false;rw [h3]; rfl
  rw [ho, this]; rfl
def chkL (d0 : Dt) (l : List Dt) (dir : Int) : Int :=
  if l.all okD then (if 1 ≤ dir ∧ dir ≤ 5 then (if l.all (fun d => decide (d.fmt = d0.fmt)) then 0 else 7) else 1) else 1
theorem Zf0 {p : Dt → Bool} {l : List Dt} {i : Nat} (h : i < l.length) : (l.take (i + 1)).all p = ((l.take i).all p && p l[i]) := by
  rw [List.take_succ_eq_append_getElem h, List.all_append]; simp
theorem Zhm {d : Dt} (h : okD d = true) : isF d.fmt := by
  unfold okD at h;simp only [Bool.and_eq_true, decide_eq_true_eq] at h;unfold isF; omega
theorem chk_bad {d0 d : Dt} {l : List Dt} {dir : Int} (hd : d ∈ l) (h : okD d = false) : chkL d0 l dir = 1 := by
  have h1 : l.all okD = false := by rw [List.all_eq_false]; exact ⟨d, hd, by rw [h]; decide⟩
  unfold chkL; rw [h1]; rfl
theorem chk_dir {d0 : Dt} {l : List Dt} {dir : Int} (h1 : l.all okD = true) (h : ¬ (1 ≤ dir ∧ dir ≤ 5)) : chkL d0 l dir = 1 := by
  unfold chkL; rw [if_pos h1, if_neg h]
theorem chk_fmt {d0 d : Dt} {l : List Dt} {dir : Int} (h1 : l.all okD = true) (h2 : 1 ≤ dir ∧ dir ≤ 5) (hd : d ∈ l) (h : d.fmt ≠ d0.fmt) : chkL d0 l dir = 7 := by
  have h3 : l.all (fun d => decide (d.fmt = d0.fmt)) = false := by rw [List.all_eq_false]; exact ⟨d, hd, by simpa using h⟩
  unfold chkL; rw [if_pos h1, if_pos h2, h3]; rfl
theorem chk_ok {d0 : Dt} {l : List Dt} {dir : Int} (h1 : l.all okD = true) (h2 : 1 ≤ dir ∧ dir ≤ 5) (h3 : l.all (fun d => decide (d.fmt = d0.fmt)) = true) : chkL d0 l dir = 0 := by
  unfold chkL; rw [if_pos h1, if_pos h2, if_pos h3]
theorem ok_beq (b : Bool) : ((if b then (0 : Int) else 1) == 0) = b := by cases b <;> rfl
theorem pan_of {x e : Int} (h : x = e) (h0 : e ≠ 0) {o : Out} (ho : o = .pan (ZdI e)) {d : D} : (x = 0 ∧ o = .ret d) ∨ (x ≠ 0 ∧ o = .pan (ZdI x)) := by subst h; exact .inr ⟨h0, ho⟩
theorem need_fmt (a b : Int) : PC Cd 145 [.bool (a == b), .int .i64 7] (fun o => (a = b ∧ o = .ret (.tup [])) ∨ ∃ q, (a ≠ b ∧ q = ZdI 7) ∧ o = .pan q) :=
  (PC.gl (Ze9 (a == b) 7)).mono fun o ho => by
    rcases ho with ⟨h1, h2⟩ | ⟨h1, h2⟩
    · exact .inl ⟨by simpa using h1, h2⟩
    exact .inr ⟨_, ⟨by simpa using h1, rfl⟩, h2⟩
theorem Zd4 (d0 : Dt) (l : List Dt) (n : Nat) (dir : Int) (hn : (d0 :: l).length = n) (hu : ∀ d ∈ d0 :: l, U32 d.coef) : PC Cd 117 [.int .i64 dir, .sl n (Z5 (d0 :: l))] (fun o => (chkL d0 (d0 :: l) dir = 0 ∧ o = .ret (fmtD d0.fmt dir)) ∨ (chkL d0 (d0 :: l) dir ≠ 0 ∧ o = .pan (ZdI (chkL d0 (d0 :: l) dir)))) := by
  obtain ⟨m, hm⟩ : ∃ m, m = d0 :: l := ⟨_, rfl⟩;rw [← hm] at hn hu ⊢
  have h0 : 0 < m.length := by rw [hm]; simp
  have hm0 : m[0] = d0 := by simp only [hm]; rfl
  refine Znr Tryz.func117 Tryz.ntmps117 Tryz.results117 ?_;refine ZnG 1 rfl (fun hlen => ?_);rw [Zy] at hlen;refine go ?_;refine Znw (S := Nat) (fun i : Nat => [(6, .any), (13, .any), (14, .any), (15, .any), (16, .any), (17, .any), (18, .any), (19, .any), (20, .any), (12, .int .i64 (i : Int))]) (fun i : Nat => [some ⟨[.int .i64 0, .int .i64 0, .int .i64 0, .int .i64 0, .int .i64 0], Zgq, 1, true, none⟩]) (fun i : Nat => i ≤ n ∧ (m.take i).all okD = true) (fun i : Nat => n - i) (0) ?_ ?_
  · exact ⟨Nat.zero_le _, by simp⟩
  rintro i hinv ih;obtain ⟨i1, i2⟩ := hinv;refine go ?_;refine Znp rfl (fun h => ?_) (fun h => ?_)
  · skip
    have hlt : i < m.length := by omega
    obtain ⟨r, hcd⟩ := ZbA hlt;have hC := Zlt m[i] (hu _ (List.getElem_mem hlt));refine go ?_;refine Za rfl (Zm (ds := dtC m[i] ++ r) rfl rfl rfl rfl (by omega) (by omega) (ZaR hlt) hcd) ?_;refine Za rfl (Ze (ds := dtC m[i]) rfl rfl rfl rfl rfl) ?_;refine ZI rfl rfl rfl rfl rfl rfl rfl rfl rfl rfl rfl ?_;refine go ?_;refine Zc rfl rfl (hC) ?_;refine zzi ?_;refine Zan rfl (ZQ rfl rfl (ZnI (PC.gl (Ze9 _ 1)))) (fun hg => ?_) (fun q hq => by obtain ⟨hq, rfl⟩ := hq; exact ⟨_, _, .same _, rfl, pan_of (chk_bad (List.getElem_mem hlt) ((ok_beq _).symm.trans hq)) (by decide) rfl⟩);have hk : okD m[i] = true := (ok_beq _).symm.trans hg;refine gn ?_;refine Za rfl (Zf rfl rfl (Zi (by omega))) ?_;refine go ?_;refine ARun.ag (ih ((i + 1)) ?_ ?_)
    · exact ⟨by omega, by rw [Zf0 hlt, i2, hk]; rfl⟩
    omega
  have hall : m.all okD = true := by rw [List.take_of_length_le (by omega)] at i2; exact i2
  have hf : isF d0.fmt := by rw [← hm0]; exact Zhm (List.all_eq_true.1 hall _ (List.getElem_mem h0))
  have hdd : (decide (dir ≥ 1) && decide (dir ≤ 5)) = decide (1 ≤ dir ∧ dir ≤ 5) := by rw [Bool.decide_and]
  refine ARun.exit rfl ?_;refine zzs ?_; refine Zr ?_; refine zzi ?_; refine Zr ?_;apply Znu 23 (fun sj1 => [(23, .any), (24, .any), (25, .any), (26, .bool sj1)]) rfl
  · intro hj1 run1
    try replace hj1 := Zh hj1
    refine Zr ?_; refine zzi ?_; refine ZK ?_;exact AOps.ag run1
  · intro hj1 run1
    try replace hj1 := Zj hj1
    refine Zg ?_; refine Zg ?_; refine ZK ?_;exact AOps.ag run1
  refine Zan rfl (ZQ rfl rfl (ZnI (PC.gl (Ze9 _ 1)))) (fun hg => ?_) (fun q hq => by obtain ⟨hq, rfl⟩ := hq; exact ⟨_, _, .same _, rfl, pan_of (chk_dir hall (Zj (hdd ▸ hq))) (by decide) rfl⟩);have hg := Zh (hdd ▸ hg);refine go ?_;refine Znw (S := Nat) (fun i : Nat => [(8, .any), (31, .any), (32, .any), (33, .any), (34, .any), (35, .any), (36, .any), (37, .any), (38, .any), (39, .any), (40, .any), (41, .any), (42, .any), (30, .int .i64 (i : Int))]) (fun i : Nat => [some ⟨[.int .i64 0, .int .i64 0, .int .i64 0, .int .i64 0, .int .i64 0], Zgq, 1, true, none⟩]) (fun i : Nat => i ≤ n ∧ (m.take i).all (fun d => decide (d.fmt = d0.fmt)) = true) (fun i : Nat => n - i) (0) ?_ ?_
  · exact ⟨Nat.zero_le _, by simp⟩
  rintro i hinv ih;obtain ⟨i1, i2⟩ := hinv;refine go ?_;refine Znp rfl (fun h => ?_) (fun h => ?_)
  · skip
    have hlt : i < m.length := by omega
    obtain ⟨r, hcd⟩ := ZbA hlt;obtain ⟨r0, hcd0⟩ := ZbA h0;rw [hm0] at hcd0;refine go ?_;refine Za rfl (Zm (ds := dtC m[i] ++ r) rfl rfl rfl rfl (by omega) (by omega) (ZaR hlt) hcd) ?_;refine Za rfl (Ze (ds := dtC m[i]) rfl rfl rfl rfl rfl) ?_;refine ZI rfl rfl rfl rfl rfl rfl rfl rfl rfl rfl rfl ?_;refine AOps.nil ?_;refine ZnJ 8 (fun q => m[i].fmt ≠ d0.fmt ∧ q = ZdI 7) mixC rfl rfl (by kernel_rfl) (fun _ _ h => ⟨_, _, .same _, by rw [h.2]; rfl, pan_of (chk_fmt hall hg (List.getElem_mem hlt) h.1) (by decide) (by rw [h.2])⟩) ?_;refine gd ?_;refine .op rfl (Zm (ds := dtC d0 ++ r0) rfl rfl rfl rfl (by omega) (by omega) (ZaR hlt) hcd0) ?_;refine zdf ?_;refine zdl ?_;refine .op rfl (Zaa rfl rfl rfl) ?_;refine .opP rfl (ZQ (g := m[i].fmt = d0.fmt) (KP := fun q => m[i].fmt ≠ d0.fmt ∧ q = ZdI 7) rfl rfl (need_fmt m[i].fmt d0.fmt)) ?_;refine .nil (fun hG => ?_);refine gn ?_;refine Za rfl (Zf rfl rfl (Zi (by omega))) ?_;refine go ?_;refine ARun.ag (ih ((i + 1)) ?_ ?_)
    · exact ⟨by omega, by rw [Zf0 hlt, i2]; simpa using hG.2⟩
    omega
  have hall2 : m.all (fun d => decide (d.fmt = d0.fmt)) = true := by rw [List.take_of_length_le (by omega)] at i2; exact i2
  obtain ⟨r0, hcd0⟩ := ZbA h0;rw [hm0] at hcd0;refine ARun.exit rfl ?_;refine go ?_;refine Za rfl (Zm (ds := dtC d0 ++ r0) rfl rfl rfl rfl (by omega) (by omega) (ZaR h0) hcd0) ?_;refine go ?_;refine Zc rfl rfl (ZkT d0.fmt hf) ?_;refine go ?_;refine Zns ?_;exact .inl ⟨chk_ok hall hg hall2, rfl⟩
theorem dcd_ret (H : Heap) (d : D) : DC Cd 158 H [.ptr 0 0, .ptr 1 0, d] .returning (fun m' H' => m' = .returning ∧ H' = H) := by
  refine ZnP ZaK Zbo rfl Zbp (by rw [Zbq]) (fun _ h => by cases h) (by simp only [List.length_cons, List.length_nil, Nat.reduceAdd, Nat.reduceSub, List.replicate_succ, List.replicate_zero, List.cons_append, List.nil_append, recD, Zu, List.set_cons_succ, List.set_cons_zero]; exact rfl) ?_;refine gn ?_;refine Za rfl (ZeJ (by kernel_rfl) rfl) ?_;refine AOps.nil ?_;refine Znz rfl ?_;refine ARun.region ?_; refine zza ?_; refine AOps.nil (ARun.inBlock ?_);refine ARun.nil ?_;exact ⟨rfl, rfl, rfl⟩
abbrev erO (e : Int) : Option AObj := some ⟨[.int .i64 e], ZL, 1, true, none⟩
theorem dcd_fail (e : Int) (d : D) : DC Cd 158 [rs0, erO 0] [.ptr 0 0, .ptr 1 0, d] (.panicking (ZdI e)) (fun m' H' => m' = .recovered (ZdI e) ∧ H' = [rs0, erO e]) := by
  refine ZnP ZaK Zbo rfl Zbp (by rw [Zbq]) (fun _ h => by cases h) (by simp only [List.length_cons, List.length_nil, Nat.reduceAdd, Nat.reduceSub, List.replicate_succ, List.replicate_zero, List.cons_append, List.nil_append, recD, Zu, List.set_cons_succ, List.set_cons_zero]; exact rfl) ?_;refine gn ?_;refine Za rfl (q_ifEq (by kernel_rfl) rfl) ?_;refine AOps.nil ?_;refine Znx rfl ?_;refine gn ?_;refine Za rfl (ZcG rfl rfl rfl) ?_;refine go ?_;refine Znz rfl ?_;refine ga ?_;refine ZI rfl rfl rfl rfl rfl rfl rfl rfl rfl rfl rfl ?_;refine AOps.nil ?_;refine ZnD (n := 4) (fun S : Nat → Bool => [rs0, erO 0]) [] (fun _ => False) (sk := []) mixC rfl rfl (by kernel_rfl) rfl (by kernel_rfl) rfl (fun _ _ _ h => h.elim) ?_;refine DChG.op rfl (fun _ => Zal rfl rfl rfl rfl rfl) (fun _ => rfl) rfl rfl ?_;refine DChG.op rfl (fun _ => Zb7 rfl rfl rfl (by decide)) (fun _ => rfl) rfl rfl ?_;refine DChG.op rfl (fun _ => ZP rfl rfl rfl rfl) (fun _ => rfl) rfl rfl ?_;refine ZnM rfl (fun S hn hd hc => ZnN (H1 := [rs0, erO 0]) (H3 := [rs0, erO 0]) rfl rfl (Zb2 rfl rfl rfl rfl rfl rfl rfl rfl (Nat.le_of_ble_eq_true rfl) rfl)) rfl rfl ?_;refine .nil (fun hG => AOps.fin (n := 2) (as' := []) (H' := [rs0, erO 0]) rfl rfl rfl ?_);refine zzT ?_; refine AOps.nil (ARun.inBlock ?_);refine ARun.nil ?_;exact ⟨rfl, rfl, rfl⟩
theorem dcd_inv (d0 : Dt) (l : List Dt) (n : Nat) (hn : (d0 :: l).length = n) : DC Cd 158 [rs0, erO 0] [.ptr 0 0, .ptr 1 0, .sptr [.sl n (Z5 (d0 :: l))]] (.panicking invD) (fun m' H' => m' = .recovered invD ∧ H' = [some ⟨[.int .i64 d0.fmt, .int .i64 3, .bool false, .nilsl, .int .i64 0, .int .i64 1], Zbd, 1, true, none⟩, erO 0]) := by
  have h1 : 0 < n := by rw [← hn]; simp
  refine ZnP ZaK Zbo rfl Zbp (by rw [Zbq]) (fun _ h => by cases h) (by simp only [List.length_cons, List.length_nil, Nat.reduceAdd, Nat.reduceSub, List.replicate_succ, List.replicate_zero, List.cons_append, List.nil_append, recD, Zu, List.set_cons_succ, List.set_cons_zero]; exact rfl) ?_;refine gn ?_;refine Za rfl (q_ifEq (by kernel_rfl) rfl) ?_;refine AOps.nil ?_;refine Znx rfl ?_;refine gn ?_;refine Za rfl (ZlR rfl rfl rfl rfl rfl) ?_;refine go ?_;refine Znx rfl ?_;refine gn ?_;refine Za rfl (ZcG rfl rfl rfl) ?_;refine go ?_;refine Znz rfl ?_;refine ga ?_;refine ZI rfl rfl rfl rfl rfl rfl rfl rfl rfl rfl rfl ?_;refine go ?_;refine Za rfl (Zm rfl rfl rfl rfl (by decide) (by omega) (by simp [Z5]) rfl) ?_;refine zzf ?_; refine zzl ?_; refine zzB ?_; refine zzB ?_; refine zzS ?_; refine zzT ?_; refine AOps.nil (ARun.inBlock ?_);refine ARun.nil ?_;exact ⟨rfl, rfl, rfl⟩
theorem Zhn {f : Int} {neg : Bool} {c : Nat} {q : Int} (h : c ≤ 10 ^ fP f) : (finD f neg c q).coef.length ≤ 1024 := by
  have := ZW f;have h2 : 10 ^ fP f < 10 ^ 40 := Nat.pow_lt_pow_right (by omega) (by omega);exact fitW (Nat.lt_of_le_of_lt h h2) (by omega)
theorem ovf_len (f : Int) (neg : Bool) (dir : Int) : (ovf f neg dir).dt.coef.length ≤ 1024 := by
  unfold ovf
  split
  · exact Nat.zero_le _
  exact Zhn (Nat.sub_le _ _)
theorem rnd_le (dir : Int) (neg : Bool) (t : Nat × Bool × Int) : rnd dir neg t ≤ t.1 + 1 := by unfold rnd; split <;> omega
theorem RS_len (f : Int) (neg : Bool) (dir prefer : Int) (x : Nm) : (RS f neg dir prefer x).dt.coef.length ≤ 1024 := by
  have hz : (zro f neg prefer).dt.coef.length ≤ 1024 := Zhn (Nat.zero_le _)
  rcases Nat.eq_zero_or_pos x.n with h | h
  · rw [ZcF h]; exact hz
  rcases Nat.eq_zero_or_pos x.d with hd | hd
  · unfold RS; rw [if_neg (by omega), dif_neg (by omega)]; exact hz
  obtain ⟨q, a1, a2⟩ := RS_spec (f := f) (neg := neg) (dir := dir) (prefer := prefer) h hd
  rcases a2 with ⟨_, _, c, q', h3, h4⟩ | ⟨_, h4⟩
  · rw [h4]
    refine Zhn ?_;have h5 := h3.2.1;have h6 := Nat.le_mul_of_pos_right c (Nat.pow_pos (n := (q' - q).toNat) (Nat.succ_pos 9));exact Nat.le_trans h6 (Nat.le_of_lt (h5 ▸ a1.2.1))
  rw [h4];unfold inx
  by_cases ho : fHi f < (if 10 ^ fP f ≤ rnd dir neg (x.at q) then q + 1 else q)
  · rw [if_pos ho]; exact ovf_len ..
  rw [if_neg ho];refine Zhn ?_
  split
  · exact Nat.pow_le_pow_right (Nat.succ_pos 9) (Nat.sub_le _ _)
  omega
noncomputable def ZR (d0 : Dt) (l : List Dt) (dir : Int) (oc : Option Oc) : Rs × Int :=
  if chkL d0 l dir = 0 then (match nanO l with
    | some r => (r, 0)
    | none => match oc with
      | none => (⟨⟨d0.fmt, 3, false, [], 0⟩, 1⟩, 0)
      | some x => (ocR d0.fmt dir x, 0)) else (rsZ, chkL d0 l dir)
theorem Zbn {d0 : Dt} {l : List Dt} {dir : Int} (h : chkL d0 l dir = 0) : isDir dir ∧ l.all okD = true ∧ l.all (fun d => decide (d.fmt = d0.fmt)) = true := by
  unfold chkL at h
  split at h
  · rename_i h1
    split at h
    · rename_i h2
      split at h
      · rename_i h3; exact ⟨h2, h1, h3⟩
      omega
    omega
  omega
theorem Meth.gl {P : Program} {gl : List (Nat × List D)} {ty : TypeId → Option TE} {ok : ∀ t te, ty t = some te → TEok P t te} {t : TypeId} {name : String} {f : FuncId} (h : Meth ⟨P, [], ty, ok⟩ t name f) : Meth ⟨P, gl, ty, ok⟩ t name f := ⟨h.run⟩
theorem m_specialG : Meth Cd ZdX "soroban/deci.finish" 369 := Meth.gl m_special
theorem m_exactG : Meth Cd ZE "soroban/deci.finish" 370 := Meth.gl m_exact
theorem ZcJ (d0 : Dt) (l : List Dt) (n : Nat) (dir : Int) (f : FuncId) (oc : Option Oc) (hn : (d0 :: l).length = n) (hu : ∀ d ∈ d0 :: l, U32 d.coef ∧ d.coef.length ≤ 35184372088832)
    (hf : chkL d0 (d0 :: l) dir = 0 → nanO (d0 :: l) = none → PC Cd f [fmtD d0.fmt dir, .sl n (Z5 (d0 :: l))] (fun o => o = Zim oc))
    (hw : chkL d0 (d0 :: l) dir = 0 → nanO (d0 :: l) = none → ∀ x, oc = some x → ocW d0.fmt x) :
    PC Cd 70 [.agg [.clos f []], .int .i64 dir, .sl n (Z5 (d0 :: l))] (fun o => o = .ret (.tup [rsD (ZR d0 (d0 :: l) dir oc).1, .int .i64 (ZR d0 (d0 :: l) dir oc).2])) := by
  have hN := Zkb (d0 :: l) n hn (fun d hd => (hu d hd).2);obtain ⟨R, hR⟩ : ∃ R, R = ZR d0 (d0 :: l) dir oc := ⟨_, rfl⟩;rw [← hR]
  have pan : ∀ (e : Int) (env : List D) (d : D), env[6]? = some (.ptr 0 0) → env[7]? = some (.ptr 1 0) → R = (rsZ, e) → (QFin Cd [.cell 6 Zbd, .cell 7 ZL] fun o x => o.pure = true ∧ o = .ret (.tup [rsD R.1, .int .i64 R.2])) (.pan (ZdI e)) env [rs0, erO 0] [.fn 158 [.ptr 0 0, .ptr 1 0, d]] := by
    intro e env d h6 h7 hr;refine DC.mono (dcd_fail e d) ?_;rintro _ _ ⟨rfl, rfl⟩;exact ⟨_, _, _, Znt h6 rfl rfl rfl rfl rfl (Znv h7 rfl rfl rfl rfl .nil), .cons (ZfY 0 0 false 0 0) (.cons (.same _) .nil), rfl, by rw [hr]; rfl⟩
  have paI : ∀ (env : List D), env[6]? = some (.ptr 0 0) → env[7]? = some (.ptr 1 0) → R = (⟨⟨d0.fmt, 3, false, [], 0⟩, 1⟩, 0) → (QFin Cd [.cell 6 Zbd, .cell 7 ZL] fun o x => o.pure = true ∧ o = .ret (.tup [rsD R.1, .int .i64 R.2])) (.pan invD) env [rs0, erO 0] [.fn 158 [.ptr 0 0, .ptr 1 0, .sptr [.sl n (Z5 (d0 :: l))]]] := by
    intro env h6 h7 hr;refine DC.mono (dcd_inv d0 l n hn) ?_;rintro _ _ ⟨rfl, rfl⟩;exact ⟨_, _, _, Znt h6 rfl rfl rfl rfl rfl (Znv h7 rfl rfl rfl rfl .nil), .cons (ZfY d0.fmt 3 false 0 1) (.cons (.same _) .nil), rfl, by rw [hr]; rfl⟩
  refine Znr Tryz.func70 Tryz.ntmps70 Tryz.results70 ?_;refine go ?_;refine zzb ?_; refine zzb ?_;refine gn ?_;refine Za rfl (ZeG rfl) ?_;refine ZmP rfl rfl rfl ?_;refine go ?_;refine Zan rfl (ZQ rfl rfl (ZnI (Zd4 d0 l n dir hn (fun d hd => (hu d hd).1)))) (fun hg => ?_) (fun q hq => by obtain ⟨hq, rfl⟩ := hq; exact pan _ _ _ rfl rfl (by rw [hR]; unfold ZR; rw [if_neg hq]));have hf := hf hg;have hw := hw hg;have hdr := (Zbn hg).1;have hfm : isF d0.fmt := Zhm (List.all_eq_true.1 (Zbn hg).2.1 d0 (List.mem_cons_self ..));unfold ZR at hR;rw [if_pos hg] at hR;refine ZI rfl rfl rfl rfl rfl rfl rfl rfl rfl rfl rfl ?_;refine go ?_;refine Zc rfl rfl (PC.gl hN) ?_;refine ga ?_;refine ZI rfl rfl rfl rfl rfl rfl rfl rfl rfl rfl rfl ?_;refine go ?_;refine ARun.cond rfl (fun hnn => ?_) (fun hnn => ?_)
  · skip
    obtain ⟨r, hr⟩ := Option.isSome_iff_exists.1 hnn;rw [hr] at hR ⊢;refine go ?_;refine ARun.ret ?_;refine DC.mono (dcd_ret _ _) ?_;rintro _ _ ⟨rfl, rfl⟩;exact ⟨_, _, _, Znt rfl rfl rfl rfl rfl rfl (Znv rfl rfl rfl rfl rfl .nil), .cons (.same _) (.cons (.same _) .nil), rfl, by rw [hR]; rfl⟩
  have hnn : nanO (d0 :: l) = none := by simpa using hnn
  rw [hnn] at hR ⊢;have hf := hf hnn;have hw := hw hnn
  have hG : PC Cd f [fmtD d0.fmt dir, .sl n (Z5 (d0 :: l))] (fun o => (oc.isSome = true ∧ o = .ret (ocD (oc.getD (.sp rsZ)))) ∨ ∃ q, (oc = none ∧ q = invD) ∧ o = .pan q) := hf.mono fun o ho => by
    cases oc with
    | none => exact .inr ⟨_, ⟨rfl, rfl⟩, ho⟩
    | some x => exact .inl ⟨rfl, ho⟩
  obtain ⟨x, hx⟩ : ∃ x, x = oc.getD (.sp rsZ) := ⟨_, rfl⟩;rw [← hx] at hG
  have hR2 : oc.isSome = true → R = (ocR d0.fmt dir x, 0) := by
    intro h;obtain ⟨y, hy⟩ := Option.isSome_iff_exists.1 h;rw [hR, hx, hy]; rfl
  have hw2 : ocW d0.fmt x := by
    cases oc with
    | none => rw [hx]; exact Nat.zero_le _
    | some y => rw [hx]; exact hw y rfl
  refine ARun.skip (ARun.seq ?_)
  cases x with
  | sp r =>
    skip
    refine ZnT 7 (fun q => oc = none ∧ q = invD) mixC rfl rfl (by kernel_rfl) ?_ ?_
    · intro env' _ hE h; rw [h.2]; exact paI env' (hE 6 (dst_ne (by kernel_rfl))) (hE 7 (dst_ne (by kernel_rfl))) (by rw [hR, h.1])
    refine zdf ?_;refine zdl ?_;refine .op rfl (Ze rfl rfl rfl rfl rfl) ?_;refine zdl ?_;refine .opP rfl (ZQ (g := oc.isSome = true) (d := ocD (.sp r)) rfl rfl hG) ?_;refine .op rfl (Ze rfl rfl rfl rfl rfl) ?_;refine .op rfl (ZbJ rfl rfl m_specialG (PC.gl (ZjS r d0.fmt dir))) ?_;refine .nil (fun hG => ?_);refine go ?_;refine zdr 6 mixC ?_;refine .op rfl (ZZ rfl rfl rfl (by decide)) ?_;refine .op rfl (Zp rfl rfl rfl rfl rfl rfl) ?_;refine .op rfl (Zb rfl rfl (PC.gl (Zbg r.dt (by have h1 : r.dt.coef.length ≤ 1024 := hw2; omega)))) ?_;refine .op rfl (ZZ rfl rfl rfl (by decide)) ?_;refine .op rfl (ZC rfl rfl rfl rfl rfl) ?_;refine .op rfl (Zal rfl rfl rfl rfl rfl) ?_;refine .nil (fun hG => ?_);refine zzS ?_; refine zzT ?_; refine AOps.nil ?_;have hso : oc.isSome = true := (‹True ∧ oc.isSome = true›).2;refine ARun.ret ?_;refine DC.mono (dcd_ret _ _) ?_;rintro _ _ ⟨rfl, rfl⟩;exact ⟨_, _, _, Znt rfl rfl rfl rfl rfl rfl (Znv rfl rfl rfl rfl rfl .nil), .cons (.same _) (.cons (.same _) .nil), rfl, by rw [hR2 hso]; rfl⟩
  | ex z d e neg pr =>
    skip
    refine ZnT 7 (fun q => oc = none ∧ q = invD) mixC rfl rfl (by kernel_rfl) ?_ ?_
    · intro env' _ hE h; rw [h.2]; exact paI env' (hE 6 (dst_ne (by kernel_rfl))) (hE 7 (dst_ne (by kernel_rfl))) (by rw [hR, h.1])
    refine zdf ?_;refine zdl ?_;refine .op rfl (Ze rfl rfl rfl rfl rfl) ?_;refine zdl ?_;refine .opP rfl (ZQ (g := oc.isSome = true) (d := ocD (.ex z d e neg pr)) rfl rfl hG) ?_;refine .op rfl (Ze rfl rfl rfl rfl rfl) ?_;refine .op rfl (ZbJ rfl rfl m_exactG (PC.gl (ZkQ d0.fmt dir z d e neg pr hfm hdr hw2.1 hw2.2.1 hw2.2.2.1 hw2.2.2.2))) ?_;refine .nil (fun hG => ?_);refine go ?_;refine zdr 6 mixC ?_;refine .op rfl (ZZ rfl rfl rfl (by decide)) ?_;refine .op rfl (Zp rfl rfl rfl rfl rfl rfl) ?_;refine .op rfl (Zb rfl rfl (PC.gl (Zbg (ocR d0.fmt dir (.ex z d e neg pr)).dt (Nat.le_trans (RS_len ..) (by omega))))) ?_;refine .op rfl (ZZ rfl rfl rfl (by decide)) ?_;refine .op rfl (ZC rfl rfl rfl rfl rfl) ?_;refine .op rfl (Zal rfl rfl rfl rfl rfl) ?_;refine .nil (fun hG => ?_);refine zzS ?_; refine zzT ?_; refine AOps.nil ?_;have hso : oc.isSome = true := (‹True ∧ oc.isSome = true›).2;refine ARun.ret ?_;refine DC.mono (dcd_ret _ _) ?_;rintro _ _ ⟨rfl, rfl⟩;exact ⟨_, _, _, Znt rfl rfl rfl rfl rfl rfl (Znv rfl rfl rfl rfl rfl .nil), .cons (.same _) (.cons (.same _) .nil), rfl, by rw [hR2 hso]; rfl⟩
noncomputable def sumR (a b : Nu) (f dir : Int) : Rs :=
  RS f (if (ZbG a b).c = 0 ∧ (ZbG a b).more = false then (if (a.c = 0 ∧ b.c = 0) ∧ a.neg = b.neg then a.neg else decide (dir = 5)) else (ZbG a b).neg) dir (min a.e b.e) (nmOf (ZbG a b).c (ZbG a b).e (ZbG a b).more)
theorem two_tens {x k b : Nat} (h : x < 2 * 10 ^ k) (hb : k + 1 ≤ b) : x < 10 ^ b := by
  refine ZG (a := k + 1) ?_ hb;rw [Nat.pow_succ]; omega
theorem plusU_b {a b : Nu} (ha : a.c < 10 ^ 200) (hb : b.c < 10 ^ 200) (hma : a.more = false) (hmb : b.more = false) (he : b.e ≤ a.e) (h1 : -100000 ≤ b.e) (h2 : a.e ≤ 100000) : (Zef a b).c < 10 ^ 3000 ∧ -100500 ≤ (Zef a b).e ∧ (Zef a b).e ≤ 100000 ∧ ((Zef a b).more = true → 10 ^ 40 ≤ (Zef a b).c) := by
  have hab := @Nat.pow_le_pow_right 10 (by omega) 200 3000 (by omega);unfold Zef
  split
  · exact ⟨Nat.lt_of_lt_of_le hb hab, by omega, by omega, fun h => by rw [hmb] at h; cases h⟩
  rename_i c1
  split
  · exact ⟨Nat.lt_of_lt_of_le ha hab, by omega, by omega, fun h => by rw [hma] at h; cases h⟩
  split
  · rename_i c3
    have hm : a.c * 10 ^ 200 < 10 ^ 400 := @Zak _ _ _ 400 ha (by omega);have hm2 : 10 ^ 200 ≤ a.c * 10 ^ 200 := Nat.le_mul_of_pos_left _ (by omega);have h40 : 10 ^ 41 ≤ 10 ^ 200 := Nat.pow_le_pow_right (by omega) (by omega);have h41 : (10 : Nat) ^ 41 = 10 ^ 40 * 10 := Nat.pow_succ ..;have hp : 0 < 10 ^ 40 := Nat.pow_pos (by omega);refine ⟨?_, by dsimp only; omega, by dsimp only; omega, fun _ => ?_⟩
    · show (if a.neg ≠ b.neg then a.c * 10 ^ 200 - 1 else a.c * 10 ^ 200) < 10 ^ 3000
      exact @ZG _ _ 3000 (Nat.lt_of_le_of_lt (by split <;> omega) hm) (by omega)
    show 10 ^ 40 ≤ (if a.neg ≠ b.neg then a.c * 10 ^ 200 - 1 else a.c * 10 ^ 200)
    split <;> omega
  rename_i c3
  have hm : a.c * 10 ^ (a.e - b.e).toNat < 10 ^ 600 := @Zak _ _ _ 600 ha (by omega);have hb2 := ZG hb (show 200 ≤ 600 by omega)
  have h61 : ∀ x : Nat, x < 2 * 10 ^ 600 → x < 10 ^ 601 := fun x hx => @two_tens x 600 601 hx (by omega)
  have hfin : ∀ c : Nat, c ≤ a.c * 10 ^ (a.e - b.e).toNat + b.c → c < 10 ^ 3000 := fun c hc => @ZG c 601 3000 (h61 c (by omega)) (by omega)
  split
  · exact ⟨hfin _ (Nat.le_refl _), by dsimp only; omega, by dsimp only; omega, fun h => by cases h⟩
  split
  · exact ⟨hfin _ (by dsimp only; omega), by dsimp only; omega, by dsimp only; omega, fun h => by cases h⟩
  exact ⟨hfin _ (by dsimp only; omega), by dsimp only; omega, by dsimp only; omega, fun h => by cases h⟩
theorem plusR_b {a b : Nu} (ha : a.c < 10 ^ 200) (hb : b.c < 10 ^ 200) (hma : a.more = false) (hmb : b.more = false) (h1 : -100000 ≤ b.e ∧ b.e ≤ 100000) (h2 : -100000 ≤ a.e ∧ a.e ≤ 100000) : (ZbG a b).c < 10 ^ 3000 ∧ -100500 ≤ (ZbG a b).e ∧ (ZbG a b).e ≤ 100000 ∧ ((ZbG a b).more = true → 10 ^ 40 ≤ (ZbG a b).c) := by
  unfold ZbG
  split
  · exact plusU_b hb ha hmb hma (by omega) h2.1 h1.2
  exact plusU_b ha hb hma hmb (by omega) h1.1 h2.2
theorem Zmw (a b : Nu) (f dir : Int) (hd : isDir dir) (ha : a.c < 10 ^ 200) (hb : b.c < 10 ^ 200) (hma : a.more = false) (hmb : b.more = false) (h1 : -50000 ≤ a.e ∧ a.e ≤ 50000) (h2 : -50000 ≤ b.e ∧ b.e ≤ 50000) :
    PC C 76 [nuD a, nuD b, .int .i64 f, .int .i64 dir] (fun o => o = .ret (rsD (sumR a b f dir))) := by
  have hp := ZW f;have hP := ZlX a b ha hb hma hmb (by omega) (by omega);have hB := plusR_b ha hb hma hmb (by omega) (by omega)
  have hB2 : -50500 ≤ (ZbG a b).e := by
    clear hP hB ha hb;unfold ZbG Zef;generalize (10 : Nat) ^ 200 = K
    (repeat' split) <;> (try dsimp only) <;> omega
  unfold sumR;obtain ⟨na, ca, ea, ma⟩ := a;obtain ⟨nb, cb, eb, mb⟩ := b;generalize ZbG ⟨na, ca, ea, ma⟩ ⟨nb, cb, eb, mb⟩ = U at hP hB hB2 ⊢;obtain ⟨nu, cu, eu, mu⟩ := U;obtain ⟨b1, b2, b3, b4⟩ := hB;replace b1 : cu < 10 ^ 3000 := b1;replace b3 : eu ≤ 100000 := b3;replace b4 : mu = true → 10 ^ 40 ≤ cu := b4;replace hB2 : -50500 ≤ eu := hB2;replace h1 : -50000 ≤ ea ∧ ea ≤ 50000 := h1;replace h2 : -50000 ≤ eb ∧ eb ≤ 50000 := h2
  have hmm : mu = true → 10 ^ fP f ≤ cu := fun h => Nat.le_trans (Nat.pow_le_pow_right (by omega) (by omega)) (b4 h)
  have hR : ∀ ng : Bool, PC C 87 [.agg [.bool ng, numD cu, .int .i64 eu, .bool mu], .int .i64 f, .int .i64 dir, .int .i64 (min ea eb)] (fun o => o = .ret (rsD (RS f ng dir (min ea eb) (nmOf cu eu mu)))) := fun ng => Zbr ⟨ng, cu, eu, mu⟩ f dir (min ea eb) hd hmm b1 ⟨by dsimp only; omega, b3⟩ ⟨by omega, by omega⟩
  show PC C 76 [.agg [.bool na, numD ca, .int .i64 ea, .bool ma], .agg [.bool nb, numD cb, .int .i64 eb, .bool mb], .int .i64 f, .int .i64 dir] (fun o => o = .ret (rsD (RS f (if cu = 0 ∧ mu = false then (if (ca = 0 ∧ cb = 0) ∧ na = nb then na else decide (dir = 5)) else nu) dir (min ea eb) (nmOf cu eu mu))))
  have hZ : ((((((lim ca).length : Nat) : Int) == 0) && ((((lim cb).length : Nat) : Int) == 0))) = decide (ca = 0 ∧ cb = 0) := by rw [lenz, lenz, Bool.decide_and]
  have hS := ZkS na nb (decide (ca = 0 ∧ cb = 0)) dir
  have hSv : (if decide (ca = 0 ∧ cb = 0) && (na == nb) then na else dir == 5) = (if (ca = 0 ∧ cb = 0) ∧ na = nb then na else decide (dir = 5)) := by
    by_cases h3 : (ca = 0 ∧ cb = 0) <;> by_cases h4 : na = nb <;> simp [h3, h4, Zgg]
  rw [hSv] at hS;generalize (if (ca = 0 ∧ cb = 0) ∧ na = nb then na else decide (dir = 5)) = sg at hS ⊢;refine Znr Tryz.func76 Tryz.ntmps76 Tryz.results76 ?_;refine go ?_;refine zzb ?_; refine zzb ?_;refine go ?_;refine Zc rfl rfl (hP) ?_;refine zzA ?_; refine zzS ?_; refine AOps.nil (ARun.seq (zzs ?_)); refine zzF ?_; refine zzG ?_; refine zzN ?_; refine zzi ?_; refine Zr ?_;apply Znu 17 (fun sj1 => [(17, .any), (18, .any), (19, .any), (20, .any), (21, .bool sj1)]) rfl
  · intro hj1 run1
    try replace hj1 := Zh hj1
    refine zzF ?_; refine zzG ?_; refine zzn ?_; refine ZK ?_;exact AOps.ag run1
  · intro hj1 run1
    try replace hj1 := Zj hj1
    refine Zg ?_; refine Zg ?_; refine Zg ?_; refine ZK ?_;exact AOps.ag run1
  refine AOps.nil ?_;refine ARun.cond rfl (fun h => ?_) (fun h => ?_)
  · skip
    have h : cu = 0 ∧ mu = false := by rw [lenz] at h; simpa using h
    refine ARun.region ?_; refine zzf ?_; refine zzl ?_; refine zzf ?_; refine zzl ?_; refine zzf ?_; refine zzl ?_; refine zzN ?_; refine zzi ?_; refine Zr ?_;apply Znu 30 (fun sj2 => [(30, .any), (31, .any), (32, .any), (33, .any), (34, .any), (35, .bool sj2)]) rfl
    · intro hj2 run2
      try replace hj2 := Zh hj2
      refine zzf ?_; refine zzl ?_; refine zzN ?_; refine zzi ?_; refine ZK ?_;exact AOps.ag run2
    · intro hj2 run2
      try replace hj2 := Zj hj2
      refine Zg ?_; refine Zg ?_; refine Zg ?_; refine Zg ?_; refine ZK ?_;exact AOps.ag run2
    refine Zr ?_;refine Za rfl (Zb rfl (by rw [hZ]; rfl) hS) ?_;refine gn ?_;refine Za rfl (Zgt rfl rfl) ?_;refine Zc rfl rfl (hR sg) ?_;refine go ?_;refine Zns ?_;rw [if_pos h]; try rfl
  have h : ¬ (cu = 0 ∧ mu = false) := by rw [lenz] at h; simpa using h
  refine gn ?_;refine Za rfl (Zgt rfl rfl) ?_;refine Zc rfl rfl (hR nu) ?_;refine go ?_;refine Zns ?_;rw [if_neg h]; try rfl
theorem Zgh (s : Bool) (a K : Nat) : sgnd s a * (K : Int) = sgnd s (a * K) := by
  unfold sgnd; cases s
  · simp
  simp only [cond_true]; rw [Int.neg_mul]; simp
theorem Zgy (s : Bool) (a b : Nat) : sgnd s a + sgnd s b = sgnd s (a + b) := by unfold sgnd; cases s <;> simp <;> omega
theorem Zho {s t : Bool} (h : s ≠ t) {a b : Nat} (hab : b ≤ a) : sgnd s a + sgnd t b = sgnd s (a - b) := by
  unfold sgnd; cases s <;> cases t <;> simp_all <;> omega
theorem Zj1 {s t : Bool} (h : s ≠ t) {a b : Nat} (hab : a ≤ b) : sgnd s a + sgnd t b = sgnd t (b - a) := by
  unfold sgnd; cases s <;> cases t <;> simp_all <;> omega
def SumEq (f dir prefer : Int) (z : Int × Int) (u : Nu) : Prop :=
  (z.1 = 0 ↔ (u.c = 0 ∧ u.more = false)) ∧ (z.1 ≠ 0 → decide (z.1 < 0) = u.neg) ∧ ∀ neg, RS f neg dir prefer ⟨z.1.natAbs, 1, z.2⟩ = RS f neg dir prefer (nmOf u.c u.e u.more)
theorem SumEq.of {f dir prefer : Int} {s : Bool} {c : Nat} {e : Int} : SumEq f dir prefer (sgnd s c, e) ⟨s, c, e, false⟩ := by
  refine ⟨by rw [Z0]; simp, fun h => ?_, fun neg => ?_⟩
  · rw [ZaO]
    have : 0 < c := by
      rcases Nat.eq_zero_or_pos c with h0 | h0
      · exact absurd ((Z0 s c).2 h0) h
      exact h0
    rw [decide_eq_true this, Bool.and_true]
  show RS f neg dir prefer ⟨(sgnd s c).natAbs, 1, e⟩ = _;rw [Zw]; rfl
theorem SumEq.far {f dir prefer : Int} {s t : Bool} {m n : Nat} {ea : Int} {k : Nat} {u : Nu} (hm : 0 < m) (hn : 0 < n) (hk : 4 * fP f < k) (hn2 : n < 10 ^ (k - 4 * fP f)) (hu0 : ¬ (u.c = 0 ∧ u.more = false)) (hus : u.neg = s)
    (hu : ∀ neg, RS f neg dir prefer (nmOf u.c u.e u.more) = RS f neg dir prefer (stk (bif decide (s ≠ t) then m * 10 ^ (4 * fP f) - 1 else m * 10 ^ (4 * fP f)) (ea - 4 * fP f))) :
    SumEq f dir prefer (sgnd s m * ((10 ^ k : Nat) : Int) + sgnd t n, ea - k) u := by
  have hlt : n < m * 10 ^ k := Nat.lt_of_lt_of_le hn2 (Nat.le_trans (Nat.pow_le_pow_right (by omega) (by omega)) (Nat.le_mul_of_pos_left _ hm))
  have hz : sgnd s m * ((10 ^ k : Nat) : Int) + sgnd t n = sgnd s (farN m n k (decide (s ≠ t))) := by
    rw [Zgh]
    by_cases h : s = t
    · subst h
      rw [Zgy, show decide (s ≠ s) = false by simp]; rfl
    rw [Zho h (Nat.le_of_lt hlt), decide_eq_true h]; rfl
  have hpos : 0 < farN m n k (decide (s ≠ t)) := by
    unfold farN; cases decide (s ≠ t) <;> simp only [cond_true, cond_false] <;> omega
  unfold SumEq;rw [hz];refine ⟨⟨fun h => absurd ((Z0 _ _).1 h) (by omega), fun h => absurd h hu0⟩, fun _ => ?_, fun neg => ?_⟩
  · show decide (sgnd s _ < 0) = u.neg
    rw [ZaO, decide_eq_true hpos, Bool.and_true, hus]
  show RS f neg dir prefer ⟨(sgnd s (farN m n k (decide (s ≠ t)))).natAbs, 1, ea - k⟩ = _;rw [Zw, hu, RS_far hm hn hk hn2]
theorem RS_farU (f dir prefer : Int) (s t : Bool) (m K : Nat) (hK : K = 10 ^ 200) (ea : Int) (hm : 0 < m) (neg : Bool) : RS f neg dir prefer (nmOf (if s ≠ t then m * K - 1 else m * K) (ea - 200) true) = RS f neg dir prefer (stk (bif decide (s ≠ t) then m * 10 ^ (4 * fP f) - 1 else m * 10 ^ (4 * fP f)) (ea - 4 * fP f)) := by
  by_cases h : s = t
  · have h1 := RS_far' (f := f) (neg := neg) (opp := false) (dir := dir) (prefer := prefer) (A := m) (ex := ea) hm
    rw [← hK] at h1;simp only [cond_false] at h1;rw [if_neg (fun h2 => h2 h), decide_eq_false (fun h2 => h2 h)];simp only [cond_false];exact h1
  have h1 := RS_far' (f := f) (neg := neg) (opp := true) (dir := dir) (prefer := prefer) (A := m) (ex := ea) hm;rw [← hK] at h1;simp only [cond_true] at h1;rw [if_pos h, decide_eq_true h];simp only [cond_true];exact h1
theorem sum_lawU (f dir prefer : Int) (s t : Bool) (m n : Nat) (ea eb : Int) (hm : m < 10 ^ (2 * fP f)) (hn : n < 10 ^ (2 * fP f)) (he : eb ≤ ea) :
    SumEq f dir prefer (sumN (fP f) (sgnd s m) ea (sgnd t n) eb) (Zef ⟨s, m, ea, false⟩ ⟨t, n, eb, false⟩) := by
  have hp := ZW f
  have e6 : ((6 * fP f : Nat) : Int) = 6 * (fP f : Int) := by omega
  unfold sumN Zef;obtain ⟨K, hK⟩ : ∃ K : Nat, K = 10 ^ 200 := ⟨_, rfl⟩;rw [← hK];have hF' := RS_farU f dir prefer s t m K hK ea;clear hK
  by_cases h1 : m = 0
  · rw [if_pos ((Z0 s m).2 h1), if_pos h1]; exact SumEq.of
  rw [if_neg (fun h => h1 ((Z0 s m).1 h)), if_neg h1]
  by_cases h2 : n = 0
  · rw [if_pos ((Z0 t n).2 h2), if_pos h2]; exact SumEq.of
  rw [if_neg (fun h => h2 ((Z0 t n).1 h)), if_neg h2]
  have hm0 : 0 < m := by omega
  have hn0 : 0 < n := by omega
  have hT : ∀ k, 0 < 10 ^ k := fun k => Nat.pow_pos (by omega)
  have hsg : decide (sgnd t n < 0) = t := by rw [ZaO, decide_eq_true hn0, Bool.and_true]
  by_cases h3 : 400 < ea - eb
  · rw [if_pos (by omega), hsg]
    rw [if_pos (show 400 < (Nu.e ⟨s, m, ea, false⟩) - (Nu.e ⟨t, n, eb, false⟩) from h3)];have key := SumEq.far (f := f) (dir := dir) (prefer := prefer) (s := s) (t := t) (m := m) (n := 1) (ea := ea) (k := 6 * fP f) (u := ⟨s, if s ≠ t then m * K - 1 else m * K, ea - 200, true⟩) hm0 (by omega) (by omega) (Nat.one_lt_pow (by omega) (by omega)) (fun h => by cases h.2) rfl (hF' hm0);rw [e6] at key;exact key
  rw [if_neg (show ¬ 400 < (Nu.e ⟨s, m, ea, false⟩) - (Nu.e ⟨t, n, eb, false⟩) from h3)];obtain ⟨k, hk⟩ : ∃ k : Nat, ea - eb = (k : Int) := ⟨(ea - eb).toNat, by omega⟩;have hkk : (Nu.e ⟨s, m, ea, false⟩) - (Nu.e ⟨t, n, eb, false⟩) = (k : Int) := hk;rw [hkk, Int.toNat_natCast]
  have key : SumEq f dir prefer (sgnd s m * ((10 ^ k : Nat) : Int) + sgnd t n, eb) (if s = t then ⟨s, m * 10 ^ k + n, eb, false⟩ else if m * 10 ^ k < n then ⟨t, n - m * 10 ^ k, eb, false⟩ else ⟨s, m * 10 ^ k - n, eb, false⟩) := by
    rw [Zgh]
    by_cases h : s = t
    · subst h; rw [if_pos rfl, Zgy]; exact SumEq.of
    rw [if_neg h]
    by_cases h4 : m * 10 ^ k < n
    · rw [if_pos h4, Zj1 h (Nat.le_of_lt h4)]; exact SumEq.of
    rw [if_neg h4, Zho h (by omega)]; exact SumEq.of
  by_cases h5 : eb < ea - 6 * (fP f : Int)
  · rw [if_pos h5, hsg]
    have hk6 : 6 * fP f < k := by omega
    have hlt : n < m * 10 ^ k := Nat.lt_of_lt_of_le hn (Nat.le_trans (Nat.pow_le_pow_right (by omega) (by omega)) (Nat.le_mul_of_pos_left _ hm0));have hn2 : n < 10 ^ (k - 4 * fP f) := Nat.lt_of_lt_of_le hn (Nat.pow_le_pow_right (by omega) (by omega))
    have kU : (if s = t then (⟨s, m * 10 ^ k + n, eb, false⟩ : Nu) else if m * 10 ^ k < n then ⟨t, n - m * 10 ^ k, eb, false⟩ else ⟨s, m * 10 ^ k - n, eb, false⟩) = ⟨s, farN m n k (decide (s ≠ t)), ea - k, false⟩ := by
      by_cases h : s = t
      · rw [if_pos h, show decide (s ≠ t) = false by simp [h], show eb = ea - k by omega]; rfl
      rw [if_neg h, if_neg (by omega), decide_eq_true h, show eb = ea - k by omega]; rfl
    have hpos : 0 < farN m n k (decide (s ≠ t)) := by
      unfold farN; cases decide (s ≠ t) <;> simp only [cond_true, cond_false] <;> omega
    have kf := SumEq.far (f := f) (dir := dir) (prefer := prefer) (s := s) (t := t) (m := m) (n := 1) (ea := ea) (k := 6 * fP f) (u := ⟨s, farN m n k (decide (s ≠ t)), ea - k, false⟩) hm0 (by omega) (by omega) (Nat.one_lt_pow (by omega) (by omega)) (fun h => by have : farN m n k (decide (s ≠ t)) = 0 := h.1; omega) rfl (fun neg => RS_far hm0 hn0 (by omega) hn2);rw [e6] at kf;rw [kU];exact kf
  rw [if_neg h5]
  (try rw [hk, Int.toNat_natCast])
  exact key
theorem sum_lawR (f dir prefer : Int) (s t : Bool) (m n : Nat) (ea eb : Int) (hm : m < 10 ^ (2 * fP f)) (hn : n < 10 ^ (2 * fP f)) :
    SumEq f dir prefer (sumZ (fP f) (sgnd s m) ea (sgnd t n) eb) (ZbG ⟨s, m, ea, false⟩ ⟨t, n, eb, false⟩) := by
  unfold sumZ ZbG
  by_cases h : ea < eb
  · rw [if_pos h, if_pos (show (Nu.e ⟨s, m, ea, false⟩) < (Nu.e ⟨t, n, eb, false⟩) from h)]; exact sum_lawU f dir prefer t s n m eb ea hn hm (by omega)
  rw [if_neg h, if_neg (show ¬ (Nu.e ⟨s, m, ea, false⟩) < (Nu.e ⟨t, n, eb, false⟩) from h)]; exact sum_lawU f dir prefer s t m n ea eb hm hn (by omega)
theorem sum_same (f dir : Int) (s t : Bool) (m n : Nat) (ea eb : Int) (hm : m < 10 ^ (2 * fP f)) (hn : n < 10 ^ (2 * fP f)) :
    ocR f dir (.ex (sumZ (fP f) (sgnd s m) ea (sgnd t n) eb).1 1 (sumZ (fP f) (sgnd s m) ea (sgnd t n) eb).2 (if sgnd s m = 0 ∧ sgnd t n = 0 ∧ s = t then s else decide (dir = 5)) (min ea eb)) = sumR ⟨s, m, ea, false⟩ ⟨t, n, eb, false⟩ f dir := by
  obtain ⟨h1, h2, h3⟩ := sum_lawR f dir (min ea eb) s t m n ea eb hm hn;unfold sumR;rw [← h3];show RS f (if (sumZ (fP f) (sgnd s m) ea (sgnd t n) eb).1 = 0 then (if sgnd s m = 0 ∧ sgnd t n = 0 ∧ s = t then s else decide (dir = 5)) else decide ((sumZ (fP f) (sgnd s m) ea (sgnd t n) eb).1 < 0)) dir (min ea eb) ⟨(sumZ (fP f) (sgnd s m) ea (sgnd t n) eb).1.natAbs, 1, (sumZ (fP f) (sgnd s m) ea (sgnd t n) eb).2⟩ = _
  congr 1
  have hzz : (sgnd s m = 0 ∧ sgnd t n = 0 ∧ s = t) ↔ (m = 0 ∧ n = 0 ∧ s = t) := by rw [Z0, Z0]
  by_cases hz : (sumZ (fP f) (sgnd s m) ea (sgnd t n) eb).1 = 0
  · rw [if_pos hz, if_pos (h1.1 hz)]
    by_cases h : m = 0 ∧ n = 0 ∧ s = t
    · rw [if_pos (hzz.2 h), if_pos ⟨⟨h.1, h.2.1⟩, h.2.2⟩]
    rw [if_neg (fun h' => h (hzz.1 h')), if_neg (fun h' => h ⟨h'.1.1, h'.1.2, h'.2⟩)]
  rw [if_neg hz, if_neg (fun h => hz (h1.2 h)), h2 hz]
theorem four_le {n : Nat} (h : 4 < (lim n).length) : 10 ^ 34 ≤ n := by
  have h1 : ¬ n < B ^ 4 := fun h2 => by have := Z6.2 h2; omega
  have h2 : (10 : Nat) ^ 34 ≤ B ^ 4 := by decide +kernel
  omega
theorem okV_len {f c e : Int} {n : Nat} (h : 4 < (lim n).length) : okV f c e n (lim n).length = false := by
  have hp := ZW f;have h1 := four_le h;have h2 : 10 ^ fP f ≤ 10 ^ 34 := Nat.pow_le_pow_right (by omega) hp.2;have h3 : 10 ^ (fP f - 1) ≤ 10 ^ 34 := Nat.pow_le_pow_right (by omega) (by omega);unfold okV;rw [decide_eq_false (show ¬ n < 10 ^ fP f by omega), decide_eq_false (show ¬ (lim n).length = 0 by omega), decide_eq_false (show ¬ n < 10 ^ (fP f - 1) by omega)]
  (repeat' split) <;> rfl
theorem ZfD (d : Dt) (hu : U32 d.coef) : PC C 62 [dtD d] (fun o => o = .ret (.bool (okD d))) := by
  obtain ⟨f, c, ng, xs, e⟩ := d;replace hu : U32 xs := hu;have hp := ZW f;have hok : okD ⟨f, c, ng, xs, e⟩ = (decide (6 ≤ f) && decide (f ≤ 8) && okB xs && okV f c e (val xs) xs.length) := rfl;rw [hok];refine Znr Tryz.func62 Tryz.ntmps62 Tryz.results62 ?_;refine go ?_;refine zzb ?_;refine go ?_;refine Zc rfl rfl (Zi5 f) ?_;refine zzn ?_; refine Zr ?_;apply ZnB 8 (fun sj1 => [(8, .any), (9, .any), (10, .any), (11, .any), (12, .any), (13, .bool sj1)]) rfl
  · intro hj1 run1
    try replace hj1 := Zh hj1
    refine Zg ?_; refine Zg ?_; refine Zg ?_; refine Zg ?_; refine ZK ?_;exact AOps.ag run1
  · intro hj1 run1
    try replace hj1 := Zj hj1
    refine go ?_;refine Zc rfl rfl (ZlO xs) ?_;refine zzn ?_; refine ZK ?_;exact AOps.ag run1
  refine Zr ?_;apply ZnB 14 (fun sj2 => [(14, .any), (15, .any), (16, .any), (17, .any), (18, .any), (19, .bool sj2)]) rfl
  · intro hj2 run2
    try replace hj2 := Zh hj2
    refine Zg ?_; refine Zg ?_; refine Zg ?_; refine Zg ?_; refine ZK ?_;exact AOps.ag run2
  · intro hj2 run2
    try replace hj2 := Zj hj2
    refine zzf ?_; refine zzl ?_; refine zzN ?_; refine zzi ?_; refine ZK ?_;exact AOps.ag run2
  refine AOps.nil ?_;refine ARun.cond rfl (fun h => ?_) (fun h => ?_)
  · skip
    have hf : (decide (6 ≤ f) && decide (f ≤ 8) && okB xs && okV f c e (val xs) xs.length) = false := by
      cases hk : okB xs with
      | false => simp
      | true =>
        obtain ⟨n, rfl, hl⟩ := Zbz hu hk;rw [hk] at h
        by_cases h4 : 4 < (lim n).length
        · rw [Zl, okV_len h4, Bool.and_false]
        have h5 : decide ((((lim n).length : Nat) : Int) > 4) = false := decide_eq_false (by omega);rw [h5] at h
        have h6 : (decide (6 ≤ f) && decide (f ≤ 8)) = false := by
          cases hq : (decide (6 ≤ f) && decide (f ≤ 8)) with
          | false => rfl
          | true => rw [hq] at h; simp at h
        rw [h6]; rfl
    rw [hf];refine go ?_;refine Zno ?_;rfl
  have hf : (decide (6 ≤ f) && decide (f ≤ 8)) = true ∧ okB xs = true := by
    cases hk : okB xs with
    | false => rw [hk] at h; simp at h
    | true =>
      cases hq : (decide (6 ≤ f) && decide (f ≤ 8)) with
      | false => rw [hq] at h; simp at h
      | true => exact ⟨rfl, rfl⟩
  rw [hf.1, hf.2];obtain ⟨n, rfl, hl⟩ := Zbz hu hf.2;have hB1 : PC C 120 [numD n, .int .i64 (fP f : Nat)] (fun o => o = .ret (.bool (decide (n < 10 ^ fP f)))) := ZfC n (fP f) hl;have hB2 : PC C 120 [numD n, .int .i64 ((fP f - 1 : Nat) : Int)] (fun o => o = .ret (.bool (decide (n < 10 ^ (fP f - 1))))) := ZfC n (fP f - 1) hl;rw [Bool.true_and, Bool.true_and, Zl];refine go ?_;refine Zc rfl rfl (ZfB f) ?_;refine ZI rfl rfl rfl rfl rfl rfl rfl rfl rfl rfl rfl ?_;refine go ?_;refine ARun.cond rfl (fun c1 => ?_) (fun c1 => ?_)
  · skip
    have c1 : c = 1 := by simpa using c1
    refine go ?_;refine Zc rfl rfl (hB1) ?_;refine Zr ?_;apply Znu 32 (fun sj3 => [(32, .any), (33, .any), (34, .any), (35, .any), (36, .any), (37, .any), (38, .bool sj3)]) rfl
    · intro hj3 run3
      try replace hj3 := Zh hj3
      refine zzf ?_; refine zzl ?_; refine zzf ?_; refine zzl ?_; refine zzi ?_; refine ZK ?_;exact AOps.ag run3
    · intro hj3 run3
      try replace hj3 := Zj hj3
      refine Zg ?_; refine Zg ?_; refine Zg ?_; refine Zg ?_; refine Zg ?_; refine ZK ?_;exact AOps.ag run3
    refine Zr ?_;apply Znu 39 (fun sj4 => [(39, .any), (40, .any), (41, .any), (42, .any), (43, .any), (44, .any), (45, .bool sj4)]) rfl
    · intro hj4 run4
      try replace hj4 := Zh hj4
      refine zzf ?_; refine zzl ?_; refine zzf ?_; refine zzl ?_; refine zzi ?_; refine ZK ?_;exact AOps.ag run4
    · intro hj4 run4
      try replace hj4 := Zj hj4
      refine Zg ?_; refine Zg ?_; refine Zg ?_; refine Zg ?_; refine Zg ?_; refine ZK ?_;exact AOps.ag run4
    refine go ?_;refine Zno ?_;unfold okV; rw [if_pos c1]; try rfl
  have c1 : ¬ c = 1 := by simpa using c1
  refine go ?_;refine ARun.cond rfl (fun c2 => ?_) (fun c2 => ?_)
  · skip
    have c2 : c = 2 := by simpa using c2
    refine zzs ?_; refine zzf ?_; refine zzl ?_; refine zzN ?_; refine zzi ?_; refine Zr ?_;apply Znu 52 (fun sj5 => [(52, .any), (53, .any), (54, .any), (55, .any), (56, .bool sj5)]) rfl
    · intro hj5 run5
      try replace hj5 := Zh hj5
      refine zzf ?_; refine zzl ?_; refine zzi ?_; refine ZK ?_;exact AOps.ag run5
    · intro hj5 run5
      try replace hj5 := Zj hj5
      refine Zg ?_; refine Zg ?_; refine Zg ?_; refine ZK ?_;exact AOps.ag run5
    refine go ?_;refine Zno ?_;unfold okV; rw [if_neg c1, if_pos c2, nat0]; try rfl
  have c2 : ¬ c = 2 := by simpa using c2
  refine ARun.seq (zzs ?_); refine zzi ?_; refine zza ?_; refine AOps.nil ?_;refine Zny (S := Bool) (fun u : Bool => [(59, .any), (57, .bool u)]) (fun u : Bool => u = decide (c = 3 ∨ c = 4)) (fun run => ?_) ?_
  · skip
    refine ARun.cond rfl (fun c3 => ?_) (fun c3 => ?_)
    · skip
      have c3 : c = 3 := by simpa using c3
      refine ARun.skip ?_;exact ARun.ag (run (c == 3) (by rw [Zgg]; exact decide_eq_decide.2 ⟨.inl, fun _ => c3⟩))
    have c3 : ¬ c = 3 := by simpa using c3
    refine ARun.region ?_; refine zzi ?_; refine zza ?_; refine AOps.nil ?_;exact ARun.ag (run (c == 4) (by rw [Zgg]; exact decide_eq_decide.2 ⟨.inr, fun h => h.resolve_left c3⟩))
  rintro u hj
  try dsimp only at hj ⊢
  refine ARun.cond rfl (fun c5 => ?_) (fun c5 => ?_)
  · skip
    have c5 : c = 3 ∨ c = 4 := Zh (hj ▸ c5);refine gn ?_;refine Za rfl (Zk rfl rfl (ZY (by omega) (by omega))) ?_;refine Zc rfl rfl (hB2) ?_;refine Zr ?_;apply Znu 66 (fun sj6 => [(66, .any), (67, .any), (68, .any), (69, .any), (70, .bool sj6)]) rfl
    · intro hj6 run6
      try replace hj6 := Zh hj6
      refine zzf ?_; refine zzl ?_; refine zzi ?_; refine ZK ?_;exact AOps.ag run6
    · intro hj6 run6
      try replace hj6 := Zj hj6
      refine Zg ?_; refine Zg ?_; refine Zg ?_; refine ZK ?_;exact AOps.ag run6
    refine go ?_;refine Zno ?_;unfold okV; rw [if_neg c1, if_neg c2, if_pos c5]; try rfl
  have c5 : ¬ (c = 3 ∨ c = 4) := Zj (hj ▸ c5);refine go ?_;refine Zno ?_;unfold okV; rw [if_neg c1, if_neg c2, if_neg c5]; try rfl
theorem Zbs (d0 : Dt) (l : List Dt) (n : Nat) (dir : Int) (hn : (d0 :: l).length = n) (hu : ∀ d ∈ d0 :: l, U32 d.coef) : PC C 36 [.sl n (Z5 (d0 :: l)), .int .i64 dir] (fun o => o = .ret (.int .i64 (chkL d0 (d0 :: l) dir))) := by
  obtain ⟨m, hm⟩ : ∃ m, m = d0 :: l := ⟨_, rfl⟩;rw [← hm] at hn hu ⊢
  have h0 : 0 < m.length := by rw [hm]; simp
  have hm0 : m[0] = d0 := by simp only [hm]; rfl
  refine Znr Tryz.func36 Tryz.ntmps36 Tryz.results36 ?_;refine ZnG 0 rfl (fun hlen => ?_);rw [Zy] at hlen;refine go ?_;refine Znw (S := Nat) (fun i : Nat => [(4, .any), (7, .any), (8, .any), (9, .any), (10, .any), (11, .any), (12, .any), (13, .any), (14, .any), (15, .any), (16, .any), (17, .any), (18, .any), (5, .int .i64 (i : Int))]) (fun i : Nat => []) (fun i : Nat => i ≤ n ∧ (m.take i).all okD = true) (fun i : Nat => n - i) (0) ?_ ?_
  · exact ⟨Nat.zero_le _, by simp⟩
  rintro i hinv ih;obtain ⟨i1, i2⟩ := hinv;refine go ?_;refine Znp rfl (fun h => ?_) (fun h => ?_)
  · skip
    have hlt : i < m.length := by omega
    obtain ⟨r, hcd⟩ := ZbA hlt;refine go ?_;refine Za rfl (Zm (ds := dtC m[i] ++ r) rfl rfl rfl rfl (by omega) (by omega) (ZaR hlt) hcd) ?_;refine Za rfl (Ze (ds := dtC m[i]) rfl rfl rfl rfl rfl) ?_;refine Zc rfl rfl (ZfD m[i] (hu _ (List.getElem_mem hlt))) ?_;refine go ?_;refine ARun.cond rfl (fun hk => ?_) (fun hk => ?_)
    · skip
      have hk : okD m[i] = false := by simpa using hk
      refine go ?_;refine Zno ?_;rw [chk_bad (List.getElem_mem hlt) hk]; try rfl
    have hk : okD m[i] = true := by simpa using hk
    refine gn ?_;refine Za rfl (Zf rfl rfl (Zi (by omega))) ?_;refine go ?_;refine ARun.ag (ih ((i + 1)) ?_ ?_)
    · exact ⟨by omega, by rw [Zf0 hlt, i2, hk]; rfl⟩
    omega
  have hall : m.all okD = true := by rw [List.take_of_length_le (by omega)] at i2; exact i2
  refine ARun.exit rfl ?_;refine go ?_;refine Zc rfl rfl (Zlq dir) ?_;refine go ?_;refine ARun.cond rfl (fun hg => ?_) (fun hg => ?_)
  · skip
    have hg : ¬ (1 ≤ dir ∧ dir ≤ 5) := fun h3 => by rw [decide_eq_true h3.1, decide_eq_true h3.2] at hg; cases hg
    refine go ?_;refine Zno ?_;rw [chk_dir hall hg]; try rfl
  have hg : 1 ≤ dir ∧ dir ≤ 5 := by simpa using hg
  refine go ?_;refine Znw (S := Nat) (fun i : Nat => [(4, .any), (22, .any), (23, .any), (24, .any), (25, .any), (26, .any), (27, .any), (28, .any), (29, .any), (30, .any), (31, .any), (32, .any), (33, .any), (34, .any), (35, .any), (36, .any), (37, .any), (6, .int .i64 (i : Int))]) (fun i : Nat => []) (fun i : Nat => 1 ≤ i ∧ i ≤ n ∧ (m.take i).all (fun d => decide (d.fmt = d0.fmt)) = true) (fun i : Nat => n - i) (1) ?_ ?_
  · exact ⟨Nat.le_refl _, by omega, by rw [hm]; simp⟩
  rintro i hinv ih;obtain ⟨i0, i1, i2⟩ := hinv;refine go ?_;refine Znp rfl (fun h => ?_) (fun h => ?_)
  · skip
    have hlt : i < m.length := by omega
    obtain ⟨r, hcd⟩ := ZbA hlt;obtain ⟨r0, hcd0⟩ := ZbA h0;rw [hm0] at hcd0;refine go ?_;refine zdr 10 mixC ?_;refine gd ?_;refine .op rfl (Zm (ds := dtC m[i] ++ r) rfl rfl rfl rfl (by omega) (by omega) (ZaR hlt) hcd) ?_;refine gd ?_;refine .op rfl (Zm (ds := dtC d0 ++ r0) rfl rfl rfl rfl (by omega) (by omega) (ZaR hlt) hcd0) ?_;refine zdf ?_;refine zdl ?_;refine .op rfl (Zaa rfl rfl rfl) ?_;refine .nil (fun hG => ?_);refine AOps.nil ?_;refine ARun.cond rfl (fun hq => ?_) (fun hq => ?_)
    · skip
      have hq : m[i].fmt ≠ d0.fmt := by simpa using hq
      refine go ?_;refine Zno ?_;rw [chk_fmt hall hg (List.getElem_mem hlt) hq]; try rfl
    have hq : m[i].fmt = d0.fmt := by simpa using hq
    refine gn ?_;refine Za rfl (Zf rfl rfl (Zi (by omega))) ?_;refine go ?_;refine ARun.ag (ih ((i + 1)) ?_ ?_)
    · exact ⟨by omega, by omega, by rw [Zf0 hlt, i2, decide_eq_true hq]; rfl⟩
    omega
  have hall2 : m.all (fun d => decide (d.fmt = d0.fmt)) = true := by rw [List.take_of_length_le (by omega)] at i2; exact i2
  refine ARun.exit rfl ?_;refine go ?_;refine Zno ?_;rw [chk_ok hall hg hall2]; try rfl
theorem isN4 {d : Dt} (h : (d.cls == 4) = true) : isN d = true := by unfold isN; rw [h, Bool.or_true]
theorem nan_skip {l : List Dt} {d : Dt} (h : isN d = false) : nanO (l ++ [d]) = nanO l := by
  have h4 : (d.cls == 4) = false := by
    cases h5 : (d.cls == 4) with
    | false => rfl
    | true => rw [isN4 h5] at h; cases h
  unfold nanO;rw [List.find?_append, List.any_append];simp [h, h4]
theorem Zf1 {l : List Dt} (h : nanO l = none) : l.find? isN = none ∧ l.any (fun d => d.cls == 4) = false := by
  unfold nanO at h
  have h1 : l.find? isN = none := by simpa using h
  refine ⟨h1, List.any_eq_false.2 fun x hx hp => ?_⟩;exact List.find?_eq_none.1 h1 x hx (isN4 hp)
theorem nan_new {l : List Dt} {d : Dt} (h0 : nanO l = none) (h : isN d = true) : nanO (l ++ [d]) = some ⟨{ d with cls := 3 }, if (d.cls == 4) = true then 1 else 0⟩ := by
  obtain ⟨h1, h2⟩ := Zf1 h0;unfold nanO;rw [List.find?_append, List.any_append, h1, h2];simp [h]
theorem nan_old {l : List Dt} {d : Dt} {r : Rs} (h0 : nanO l = some r) : nanO (l ++ [d]) = some ⟨r.dt, if (d.cls == 4) = true then 1 else r.fl⟩ := by
  unfold nanO at h0 ⊢;rw [List.find?_append, List.any_append]
  cases h1 : l.find? isN with
  | none => rw [h1] at h0; simp at h0
  | some e =>
    rw [h1] at h0
    have h2 : (⟨{ e with cls := 3 }, if l.any (fun d => d.cls == 4) then 1 else 0⟩ : Rs) = r := by simpa using h0
    subst h2
    cases h3 : l.any (fun d => d.cls == 4) <;> cases h4 : (d.cls == 4) <;> simp [h4]
def outO : Option Rs → Option AObj
  | none => rs0
  | some r => some ⟨[.int .i64 r.dt.fmt, .int .i64 r.dt.cls, .bool r.dt.neg, sln .u32 r.dt.coef, .int .i64 r.dt.exp, .int .i64 r.fl], Zbd, 1, true, none⟩
theorem Zc9 (m : List Dt) (n : Nat) (hn : m.length = n) : PC C 72 [.sl n (Z5 m)] (fun o => o = .ret (.tup [rsD ((nanO m).getD rsZ), .bool (nanO m).isSome])) := by
  refine Znr Tryz.func72 Tryz.ntmps72 Tryz.results72 ?_;refine ZnG 0 rfl (fun hlen => ?_);rw [Zy] at hlen;refine go ?_;refine Znw (S := Nat × Option Rs) (fun σ : Nat × Option Rs => [(8, .any), (9, .any), (10, .any), (11, .any), (12, .any), (13, .any), (14, .any), (15, .any), (16, .any), (17, .any), (18, .any), (19, .any), (20, .any), (21, .any), (22, .any), (23, .any), (24, .any), (25, .any), (26, .any), (27, .any), (28, .any), (29, .any), (30, .any), (31, .any), (32, .any), (33, .any), (34, .any), (35, .any), (5, .bool σ.2.isSome), (6, .int .i64 (σ.1 : Int))]) (fun σ : Nat × Option Rs => [rs0, outO σ.2]) (fun σ : Nat × Option Rs => σ.1 ≤ n ∧ σ.2 = nanO (m.take σ.1)) (fun σ : Nat × Option Rs => n - σ.1) ((0, none)) ?_ ?_
  · exact ⟨Nat.zero_le _, rfl⟩
  rintro ⟨i, o⟩ hinv ih;dsimp only at hinv ih ⊢;obtain ⟨hi, ho⟩ := hinv;refine go ?_;refine Znp rfl (fun h => ?_) (fun h => ?_)
  · skip
    have hlt : i < m.length := by omega
    obtain ⟨r, hcd⟩ := ZbA hlt;have htk : m.take (i + 1) = m.take i ++ [m[i]] := List.take_succ_eq_append_getElem hlt;have hN := ZcS m[i];refine go ?_;refine Za rfl (Zm (ds := dtC m[i] ++ r) rfl rfl rfl rfl (by omega) (by omega) (ZaR hlt) hcd) ?_;refine Za rfl (Ze (ds := dtC m[i]) rfl rfl rfl rfl rfl) ?_;refine Zc rfl rfl (hN) ?_;refine go ?_;refine ARun.cond rfl (fun h1 => ?_) (fun h1 => ?_)
    · skip
      have h1 : isN m[i] = false := by simpa using h1
      have hs := nan_skip (l := m.take i) h1;refine ARun.exit rfl ?_;refine gn ?_;refine Za rfl (Zf rfl rfl (Zi (by omega))) ?_;refine go ?_;refine ARun.ag (ih ((i + 1, o)) ?_ ?_)
      · exact ⟨by omega, by rw [htk, hs]; exact ho⟩
      omega
    have h1 : isN m[i] = true := by simpa using h1
    have hnew := fun h => nan_new (l := m.take i) (d := m[i]) h h1
    have hold := fun r h => nan_old (l := m.take i) (d := m[i]) (r := r) h
    rw [← htk, ← ho] at hnew hold;refine ARun.skip (ARun.seq (zzs ?_)); refine Zr ?_; refine zzn ?_; refine AOps.nil ?_
    cases o with
    | none =>
      have hnew := hnew rfl
      skip
      refine Znz rfl ?_;refine go ?_;refine Za rfl (Zm (ds := dtC m[i] ++ r) rfl rfl rfl rfl (by omega) (by omega) (ZaR hlt) hcd) ?_;refine Za rfl (Ze (ds := dtC m[i]) rfl rfl rfl rfl rfl) ?_;refine go ?_;refine Za rfl (Zm (ds := dtC m[i] ++ r) rfl rfl rfl rfl (by omega) (by omega) (ZaR hlt) hcd) ?_;refine go ?_;refine ARun.cond rfl (fun h4 => ?_) (fun h4 => ?_)
      · skip
        rw [if_pos h4] at hnew;refine gn ?_;refine Za rfl (Zf rfl rfl (Zi (by omega))) ?_;refine go ?_;refine ARun.ag (ih ((i + 1, some ⟨{ m[i] with cls := 3 }, 1⟩)) ?_ ?_)
        · exact ⟨by omega, hnew.symm⟩
        omega
      rw [if_neg (by rw [h4]; decide)] at hnew;refine gn ?_;refine Za rfl (Zf rfl rfl (Zi (by omega))) ?_;refine go ?_;refine ARun.ag (ih ((i + 1, some ⟨{ m[i] with cls := 3 }, 0⟩)) ?_ ?_)
      · exact ⟨by omega, hnew.symm⟩
      omega
    | some q =>
      have hold := hold q rfl
      skip
      refine Znx rfl ?_;refine go ?_;refine Za rfl (Zm (ds := dtC m[i] ++ r) rfl rfl rfl rfl (by omega) (by omega) (ZaR hlt) hcd) ?_;refine go ?_;refine ARun.cond rfl (fun h4 => ?_) (fun h4 => ?_)
      · skip
        rw [if_pos h4] at hold;refine gn ?_;refine Za rfl (Zf rfl rfl (Zi (by omega))) ?_;refine go ?_;refine ARun.ag (ih ((i + 1, some ⟨q.dt, 1⟩)) ?_ ?_)
        · exact ⟨by omega, hold.symm⟩
        omega
      rw [if_neg (by rw [h4]; decide)] at hold;refine gn ?_;refine Za rfl (Zf rfl rfl (Zi (by omega))) ?_;refine go ?_;refine ARun.ag (ih ((i + 1, some ⟨q.dt, q.fl⟩)) ?_ ?_)
      · exact ⟨by omega, hold.symm⟩
      omega
  rw [List.take_of_length_le (by omega)] at ho;rw [← ho]
  cases o with
  | none =>
    skip
    refine ARun.exit rfl ?_;refine go ?_;refine ARun.ret ?_;refine ⟨_, _, _, Znt rfl rfl rfl rfl rfl rfl (.tmp rfl .nil), .cons (ZfY 0 0 false 0 0) (.cons (.same _) .nil), rfl, ?_⟩;rfl
  | some q =>
    skip
    refine ARun.exit rfl ?_;refine go ?_;refine ARun.ret ?_;refine ⟨_, _, _, Znt rfl rfl rfl rfl rfl rfl (.tmp rfl .nil), .cons (.same _) (.cons (.same _) .nil), rfl, ?_⟩;rfl
theorem okD_coef {d : Dt} (hu : U32 d.coef) (h : okD d = true) : isF d.fmt ∧ ∃ n, d.coef = lim n ∧ okV d.fmt d.cls d.exp n (lim n).length = true := by
  have hf := Zhm h;unfold okD at h;simp only [Bool.and_eq_true] at h;obtain ⟨n, hn, hl⟩ := Zbz hu h.1.2;refine ⟨hf, n, hn, ?_⟩;have h2 := h.2;rw [hn, Zl] at h2;exact h2
theorem ZbW {d : Dt} (hu : U32 d.coef) (h : okD d = true) : ∃ n, dtF d.fmt d n := by
  obtain ⟨hf, n, hn, hv⟩ := okD_coef hu h;have hp := ZW d.fmt;have hb := f_le d.fmt;have hT : 0 < 10 ^ fP d.fmt := Nat.pow_pos (by omega);have hT2 : 10 ^ (fP d.fmt - 1) ≤ 10 ^ fP d.fmt := Nat.pow_le_pow_right (by omega) (by omega);refine ⟨n, hn, ?_, ?_, ?_⟩
  all_goals unfold okV at hv
  all_goals split at hv
  all_goals try simp only [Bool.and_eq_true, decide_eq_true_eq] at hv
  all_goals try omega
  all_goals split at hv
  all_goals try simp only [Bool.and_eq_true, decide_eq_true_eq] at hv
  all_goals try omega
  all_goals try (split at hv)
  all_goals try simp only [Bool.and_eq_true, decide_eq_true_eq] at hv
  all_goals try omega
  all_goals try (cases hv; done)
  · have : n = 0 := by
      rcases Nat.eq_zero_or_pos n with h0 | h0
      · exact h0
      have := ZB.2 (show n ≠ 0 by omega); omega
    omega
theorem ZdT {d : Dt} (h : okD d = true) : -50000 ≤ d.exp ∧ d.exp ≤ 50000 := by
  have hb := f_le d.fmt;unfold okD at h;simp only [Bool.and_eq_true] at h;have hv := h.2;unfold okV at hv
  split at hv
  · simp only [Bool.and_eq_true, decide_eq_true_eq] at hv; omega
  split at hv
  · simp only [Bool.and_eq_true, decide_eq_true_eq] at hv; omega
  split at hv
  · simp only [Bool.and_eq_true, decide_eq_true_eq] at hv; omega
  cases hv
noncomputable def addG (a b : Dt) (dir : Int) : Rs × Int :=
  if chkL a [a, b] dir = 0 then (match nanO [a, b] with
    | some r => (r, 0)
    | none => if a.cls = 2 ∧ b.cls = 2 ∧ a.neg ≠ b.neg then (⟨⟨a.fmt, 3, false, [], 0⟩, 1⟩, 0) else if a.cls = 2 then (⟨infD a.fmt a.neg, 0⟩, 0) else if b.cls = 2 then (⟨infD a.fmt b.neg, 0⟩, 0)
      else (sumR ⟨a.neg, val a.coef, a.exp, false⟩ ⟨b.neg, val b.coef, b.exp, false⟩ a.fmt dir, 0)) else (rsZ, chkL a [a, b] dir)
theorem Zgi {H : Heap} (e : Int) : Fz H (.agg [.int .i64 0, .int .i64 0, .bool false, .nilsl, .int .i64 0, .int .i64 0, .int .i64 e]) (ZfZ rsZ e) [] := .agg (.cons (.same _) (.cons (.same _) (.cons (.same _) (.cons .nil (.cons (.same _) (.cons (.same _) (.cons (.same _) .nil)))))))
theorem ZhI (a b : Dt) (dir : Int) (ha : U32 a.coef) (hb : U32 b.coef) : PC C 22 [dtD a, dtD b, .int .i64 dir] (fun o => o = .ret (ZfZ (addG a b dir).1 (addG a b dir).2)) := by
  have hu : ∀ d ∈ [a, b], U32 d.coef := fun d hd => by
    simp only [List.mem_cons, List.not_mem_nil, or_false] at hd
    rcases hd with rfl | rfl <;> assumption
  have hC := Zbs a [b] 2 dir rfl hu;have hN := Zc9 [a, b] 2 rfl;unfold addG;refine Znr Tryz.func22 Tryz.ntmps22 Tryz.results22 ?_;refine go ?_;refine zzb ?_; refine zzb ?_;refine go ?_;refine Za rfl (Zd rfl rfl rfl rfl rfl rfl rfl rfl rfl rfl rfl (by decide) (by decide) rfl) ?_;refine go ?_;refine Zc rfl rfl (hC) ?_;refine go ?_;refine ARun.cond rfl (fun h0 => ?_) (fun h0 => ?_)
  · skip
    have h0 : ¬ chkL a [a, b] dir = 0 := by simpa using h0
    rw [if_neg h0];refine go ?_;refine ARun.ret ?_;refine ⟨_, _, _, Znt rfl rfl rfl rfl rfl rfl .nil, .cons (Zgi _) .nil, rfl, ?_⟩;rfl
  have h0 : chkL a [a, b] dir = 0 := by simpa using h0
  rw [if_pos h0];obtain ⟨hdr, hall, hfm⟩ := Zbn h0;simp only [List.all_cons, List.all_nil, Bool.and_true, Bool.and_eq_true, decide_eq_true_eq] at hall hfm;obtain ⟨m, hm⟩ := ZbW ha hall.1;obtain ⟨n, hn⟩ := ZbW hb hall.2;have hp := ZW a.fmt;have hm2 := ZG hm.lt (show fP a.fmt ≤ 200 by omega);have hea := ZdT hall.1;have heb := ZdT hall.2;have hn2 : n < 10 ^ 200 := ZG hn.lt (by have := ZW b.fmt; omega);refine go ?_;refine Zc rfl rfl (hN) ?_;refine ga ?_;refine ZI rfl rfl rfl rfl rfl rfl rfl rfl rfl rfl rfl ?_;refine go ?_;refine ARun.cond rfl (fun h1 => ?_) (fun h1 => ?_)
  · skip
    obtain ⟨r, hr⟩ := Option.isSome_iff_exists.1 h1;rw [hr];refine go ?_;refine Zc rfl rfl (Zv r) ?_;refine go ?_;refine Zns ?_;rfl
  have h1 : nanO [a, b] = none := by simpa using h1
  rw [h1];refine zzs ?_; refine zzf ?_; refine zzl ?_; refine zzi ?_; refine Zr ?_;apply Znu 34 (fun sj1 => [(34, .any), (35, .any), (36, .any), (37, .any), (38, .bool sj1)]) rfl
  · intro hj1 run1
    try replace hj1 := Zh hj1
    refine zzf ?_; refine zzl ?_; refine zzi ?_; refine ZK ?_;exact AOps.ag run1
  · intro hj1 run1
    try replace hj1 := Zj hj1
    refine Zg ?_; refine Zg ?_; refine Zg ?_; refine ZK ?_;exact AOps.ag run1
  refine Zr ?_;apply Znu 39 (fun sj2 => [(39, .any), (40, .any), (41, .any), (42, .any), (43, .any), (44, .any), (45, .bool sj2)]) rfl
  · intro hj2 run2
    try replace hj2 := Zh hj2
    refine gn ?_;refine Za rfl (Zbu rfl rfl rfl) ?_;refine ZK ?_;exact AOps.ag run2
  · intro hj2 run2
    try replace hj2 := Zj hj2
    refine Zg ?_; refine Zg ?_; refine Zg ?_; refine Zg ?_; refine Zg ?_; refine ZK ?_;exact AOps.ag run2
  refine go ?_;refine ARun.cond rfl (fun h2 => ?_) (fun h2 => ?_)
  · skip
    have h2 : a.cls = 2 ∧ b.cls = 2 ∧ a.neg ≠ b.neg := by simpa [and_assoc] using h2
    refine go ?_;refine Zc rfl rfl (ZaY a.fmt) ?_;refine Zc rfl rfl (Zv ⟨⟨a.fmt, 3, false, [], 0⟩, 1⟩) ?_;refine go ?_;refine Zns ?_;simp only [if_pos h2]; try rfl
  have h2 : ¬ (a.cls = 2 ∧ b.cls = 2 ∧ a.neg ≠ b.neg) := fun h3 => by simp [h3.1, h3.2.1, h3.2.2] at h2
  refine go ?_;refine ARun.cond rfl (fun h3 => ?_) (fun h3 => ?_)
  · skip
    have h3 : a.cls = 2 := by simpa using h3
    refine go ?_;refine Zc rfl rfl (Zbx a.fmt a.neg) ?_;refine Zc rfl rfl (Zv ⟨infD a.fmt a.neg, 0⟩) ?_;refine go ?_;refine Zns ?_;simp only [if_neg h2, if_pos h3]; try rfl
  have h3 : ¬ a.cls = 2 := by simpa using h3
  refine go ?_;refine ARun.cond rfl (fun h4 => ?_) (fun h4 => ?_)
  · skip
    have h4 : b.cls = 2 := by simpa using h4
    refine go ?_;refine Zc rfl rfl (Zbx a.fmt b.neg) ?_;refine Zc rfl rfl (Zv ⟨infD a.fmt b.neg, 0⟩) ?_;refine go ?_;refine Zns ?_;simp only [if_neg h2, if_neg h3, if_pos h4]; try rfl
  have h4 : ¬ b.cls = 2 := by simpa using h4
  refine go ?_;refine zdr 9 mixC ?_;refine .op rfl (Ze rfl rfl rfl rfl rfl) ?_;refine .op rfl (Zb rfl rfl (ZdO a m hm.co)) ?_;refine .op rfl (Ze rfl rfl rfl rfl rfl) ?_;refine .op rfl (Zb rfl rfl (ZdO b n hn.co)) ?_;refine gd ?_;refine .op rfl (Zb rfl rfl (Zmw ⟨a.neg, m, a.exp, false⟩ ⟨b.neg, n, b.exp, false⟩ a.fmt dir hdr hm2 hn2 rfl rfl hea heb)) ?_;refine .op rfl (Zb rfl rfl (Zv (sumR ⟨a.neg, m, a.exp, false⟩ ⟨b.neg, n, b.exp, false⟩ a.fmt dir))) ?_;refine .nil (fun hG => ?_);refine go ?_;refine Zns ?_;simp only [if_neg h2, if_neg h3, if_neg h4];rw [hm.co, hn.co, Zl, Zl]; try rfl
end Go.V
