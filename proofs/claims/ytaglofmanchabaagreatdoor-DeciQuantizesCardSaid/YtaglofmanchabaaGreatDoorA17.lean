/- Rules for steps and contracts of functions, each proved; no condition. -/
import Derived.Test.YtaglofmanchabaaGreatDoorA16
import Derived.Test.YtaglofmanchabaaGreatDoorTie
import Derived.Test.YtaglofmanchabaaGreatDoorCards
import Derived.ProofKit
import Derived.OpenShut
import Derived.LaidMore
import Derived.Lay
import Derived.SevenTiedAt
import Derived.Carry
import Derived.Stop.Joined
set_option linter.unusedVariables false
set_option linter.unusedSimpArgs false
set_option linter.unnecessarySimpa false
set_option maxHeartbeats 2000000
set_option maxRecDepth 100000
set_option synthInstance.maxHeartbeats 2000000
set_option synthInstance.maxSize 100000
namespace Go.V
open Go.RowKit Go.Proofs
def raF (dir : Int) : FuncId := if dir = 1 then 256 else if dir = 2 then 257 else if dir = 3 then 258 else if dir = 4 then 259 else 260
abbrev raK : List D := [.int .i64 1, .int .i64 2, .int .i64 3, .int .i64 4, .int .i64 5]
abbrev raV : List D := [.clos 256 [], .clos 257 [], .clos 258 [], .clos 259 [], .clos 260 []]
theorem find_ra {dir : Int} (h : isDir dir) : ZeR .i64 dir (raK.zip raV) = some (some (.clos (raF dir) [])) := by
  rcases h.cases with rfl | rfl | rfl | rfl | rfl <;> rfl
theorem ZhK : PC C 197 [] (fun o => o = .ret (.mapv raK raV)) := by
  refine Znr Tryz.func197 Tryz.ntmps197 Tryz.results197 ?_;refine zzs ?_;refine Za rfl (Zh3) ?_;refine zzt ?_;refine Zq rfl (ZeI (kt := 3) (et := Za2) (by kernel_rfl) (.inl rfl)) ?_;refine Zq rfl (Zaq (kt := 3) (et := Za2) (.inl rfl) (by kernel_rfl) (by kernel_rfl) rfl rfl rfl rfl rfl) ?_;refine Zq rfl (Zaq (kt := 3) (et := Za2) (.inl rfl) (by kernel_rfl) (by kernel_rfl) rfl rfl rfl rfl rfl) ?_;refine Zq rfl (Zaq (kt := 3) (et := Za2) (.inl rfl) (by kernel_rfl) (by kernel_rfl) rfl rfl rfl rfl rfl) ?_;refine Zq rfl (Zaq (kt := 3) (et := Za2) (.inl rfl) (by kernel_rfl) (by kernel_rfl) rfl rfl rfl rfl rfl) ?_;refine Zq rfl (Zaq (kt := 3) (et := Za2) (.inl rfl) (by kernel_rfl) (by kernel_rfl) rfl rfl rfl rfl rfl) ?_;refine Zr ?_; refine zza ?_; refine AOps.nil ?_;have hz : Fz [mapO (raK.zip raV)] (.mapp 0) (.mapv raK raV) [0] := Fz.map (es := raK.zip raV) rfl rfl rfl rfl;refine ARun.ret ?_;refine ⟨_, _, _, .tmp rfl .nil, .cons hz .nil, rfl, ?_⟩;rfl
theorem Zm0 (neg odd : Bool) (half : Int) : PC C 256 [.bool neg, .bool odd, .int .i64 half] (fun o => o = .ret (.bool (dirB 1 neg odd half))) := by
  refine Znr Tryz.func256 Tryz.ntmps256 Tryz.results256 ?_;refine zzs ?_; refine zza ?_; refine zzt ?_; refine Zr ?_; refine zzi ?_; refine Zr ?_;apply ZnB 9 (fun sj1 => [(9, .any), (10, .any), (11, .any), (12, .any), (13, .any), (14, .any), (15, .bool sj1)]) rfl
  · intro hj1 run1
    try replace hj1 := Zh hj1
    refine Zg ?_; refine Zg ?_; refine Zg ?_; refine Zg ?_; refine Zg ?_; refine ZK ?_;exact AOps.ag run1
  · intro hj1 run1
    try replace hj1 := Zj hj1
    refine Zr ?_; refine zzi ?_; refine Zr ?_;apply Znu 12 (fun sj2 => [(12, .any), (13, .any), (14, .bool sj2)]) rfl
    · intro hj2 run2
      try replace hj2 := Zh hj2
      refine Zr ?_; refine ZK ?_;exact AOps.ag run2
    · intro hj2 run2
      try replace hj2 := Zj hj2
      refine Zg ?_; refine ZK ?_;exact AOps.ag run2
    refine ZK ?_;exact AOps.ag run1
  refine go ?_;refine Zno ?_;rfl
theorem Zm1 (neg odd : Bool) (half : Int) : PC C 257 [.bool neg, .bool odd, .int .i64 half] (fun o => o = .ret (.bool (dirB 2 neg odd half))) := by
  refine Znr Tryz.func257 Tryz.ntmps257 Tryz.results257 ?_;refine go ?_;refine Zno ?_;rfl
theorem Zm2 (neg odd : Bool) (half : Int) : PC C 258 [.bool neg, .bool odd, .int .i64 half] (fun o => o = .ret (.bool (dirB 3 neg odd half))) := by
  refine Znr Tryz.func258 Tryz.ntmps258 Tryz.results258 ?_;refine go ?_;refine Zno ?_;rfl
theorem Zm3 (neg odd : Bool) (half : Int) : PC C 259 [.bool neg, .bool odd, .int .i64 half] (fun o => o = .ret (.bool (dirB 4 neg odd half))) := by
  refine Znr Tryz.func259 Tryz.ntmps259 Tryz.results259 ?_;refine go ?_;refine Zno ?_;rfl
theorem Zm4 (neg odd : Bool) (half : Int) : PC C 260 [.bool neg, .bool odd, .int .i64 half] (fun o => o = .ret (.bool (dirB 5 neg odd half))) := by
  refine Znr Tryz.func260 Tryz.ntmps260 Tryz.results260 ?_;refine go ?_;refine Zno ?_;rfl
theorem Zkh {dir : Int} (h : isDir dir) (neg odd : Bool) (half : Int) : PC C (raF dir) [.bool neg, .bool odd, .int .i64 half] (fun o => o = .ret (.bool (dirB dir neg odd half))) := by
  rcases h.cases with rfl | rfl | rfl | rfl | rfl
  · exact Zm0 neg odd half
  · exact Zm1 neg odd half
  · exact Zm2 neg odd half
  · exact Zm3 neg odd half
  exact Zm4 neg odd half
theorem cmp_half {r d : Nat} (h : r ≤ d) : cmpI r (d - r) = cmpI (2 * r) d := by
  unfold cmpI
  by_cases h1 : r < d - r
  · rw [if_pos h1, if_pos (by omega)]
  rw [if_neg h1, if_neg (show ¬ 2 * r < d by omega)]
  by_cases h2 : r = d - r
  · rw [if_pos h2, if_pos (by omega)]
  rw [if_neg h2, if_neg (by omega)]
theorem ZjU (r d : Nat) (hr : (lim r).length ≤ 1024) (hd : (lim d).length ≤ 1024) (h : r ≤ d) : PC C 261 [numD r, numD d] (fun o => o = .ret (.int .i64 (cmpI (2 * r) d))) := by
  rw [← cmp_half h];refine Znr Tryz.func261 Tryz.ntmps261 Tryz.results261 ?_;refine go ?_;refine Zc rfl rfl (nSub d r hd h) ?_;refine go ?_;refine Zc rfl rfl (Zd3) ?_;refine go ?_;refine Zc rfl rfl (nCmp r (d - r) hr (Nat.le_trans (Zn (Nat.sub_le _ _)) hd)) ?_;refine go ?_;refine Zc rfl rfl (Zd3) ?_;refine go ?_;refine Zno ?_;rfl
theorem Zmy : PC C 262 [] (fun o => o = .ret (numD 1)) := by
  refine Znr Tryz.func262 Tryz.ntmps262 Tryz.results262 ?_;refine gn ?_;refine Za rfl (Znq (Zd rfl rfl rfl rfl rfl rfl rfl rfl rfl rfl rfl (by decide) (by decide) rfl) ZO) ?_;refine go ?_;refine Zno ?_;rfl
theorem ZjV (z : Int) (d : Nat) (dir : Int) (hdr : isDir dir) (hz : z.natAbs < 10 ^ 9000) (hd : (lim d).length ≤ 1024) (hd0 : 0 < d) : PC C 198 [ratD z d, .clos (raF dir) []] (fun o => o = .ret (intD (sgnd (decide (z < 0)) (rnd dir (decide (z < 0)) (pc z.natAbs d))))) := by
  have lz := fitW hz (by omega);have hr := Nat.mod_lt z.natAbs hd0;have lr := Nat.le_trans (Zn (Nat.mod_le z.natAbs d)) lz;have hq : z.natAbs / d < 10 ^ 9000 := Nat.lt_of_le_of_lt (Nat.div_le_self _ _) hz;have hD := Zer z.natAbs d lz hd hd0;have hpc : pc z.natAbs d = (z.natAbs / d, decide (z.natAbs % d ≠ 0), cmpI (2 * (z.natAbs % d)) d) := rfl;rw [hpc];have hH := ZjU (z.natAbs % d) d lr hd (Nat.le_of_lt hr);generalize cmpI (2 * (z.natAbs % d)) d = h at *;generalize z.natAbs / d = c at *;generalize z.natAbs % d = r at *;show PC C 198 [.agg [.bool (decide (z < 0)), numD z.natAbs, numD d], .clos (raF dir) []] _;generalize decide (z < 0) = neg at *;have lc := fitW hq (by omega);have hc1 : c + 1 < 10 ^ 9001 := @suc_tens _ _ 9001 hq (by omega);refine Znr Tryz.func198 Tryz.ntmps198 Tryz.results198 ?_;refine go ?_;refine zzb ?_;refine go ?_;refine Zc rfl rfl (hD) ?_;refine Zr ?_; refine zze ?_; refine zze ?_; refine zza ?_; refine zza ?_; refine AOps.nil (ARun.seq (ARun.seq ?_));refine Zny (S := Bool) (fun u : Bool => [(18, .any), (19, .any), (20, .any), (21, .any), (22, .any), (23, .any), (24, .any), (25, .any), (26, .any), (27, .any), (28, .any), (29, .any), (30, .any), (31, .any), (32, .any), (33, .any), (34, .any), (35, .any), (36, .any), (37, .any), (38, .any), (39, .any), (40, .any), (41, .bool u)]) (fun u : Bool => u = (decide (r ≠ 0) && dirB dir neg (decide (c % 2 = 1)) h)) (fun run => ?_) ?_
  · rcases Nat.eq_zero_or_pos r with hr0 | hr0
    · have er : decide (r ≠ 0) = false := decide_eq_false (by omega)
      refine zdr 24 mixC ?_;refine zdm ?_;refine .op rfl (ZdJ rfl rfl) ?_;refine .op rfl (Znq (d' := .bool false) (Zaa rfl rfl rfl) (congrArg D.bool (decide_eq_false (by rw [hr0, Za9]; decide)))) ?_;refine zdm ?_;refine .skip rfl ?_;refine .skip rfl ?_;refine .skip rfl ?_;refine .skip rfl ?_;refine .skip rfl ?_;refine .skip rfl ?_;refine .skip rfl ?_;refine .skip rfl ?_;refine .skip rfl ?_;refine .skip rfl ?_;refine .skip rfl ?_;refine .skip rfl ?_;refine .skip rfl ?_;refine .skip rfl ?_;refine .skip rfl ?_;refine .skip rfl ?_;refine .skip rfl ?_;refine .skip rfl ?_;refine .skip rfl ?_;refine .op rfl (Zaw rfl rfl rfl rfl) ?_;refine .nil (fun hG => ?_);refine AOps.nil ?_;exact ARun.ag (run (false) ((by rw [er]; rfl)))
    have er : decide (r ≠ 0) = true := decide_eq_true (by omega);have hlr : 0 < (lim r).length := ZB.2 (by omega)
    rcases Nat.eq_zero_or_pos c with h0 | h0
    · subst h0
      refine zdr 24 mixC ?_;refine zdm ?_;refine .op rfl (ZdJ rfl rfl) ?_;refine .op rfl (Znq (d' := .bool true) (Zaa rfl rfl rfl) (congrArg D.bool (decide_eq_true (by omega)))) ?_;refine gd ?_;refine .op rfl (ZdJ rfl rfl) ?_;refine .op rfl (Znq (d' := .bool false) (Zaa rfl rfl rfl) (congrArg D.bool (decide_eq_false (by rw [Za9]; decide)))) ?_;refine zdm ?_;refine .skip rfl ?_;refine .skip rfl ?_;refine .skip rfl ?_;refine .skip rfl ?_;refine .skip rfl ?_;refine .op rfl (Zaw rfl rfl rfl rfl) ?_;refine gd ?_;refine .op rfl (Zb rfl rfl (hH)) ?_;refine .op rfl (Zb rfl rfl (Zkh hdr neg false h)) ?_;refine .op rfl (Zaw rfl rfl rfl rfl) ?_;refine .nil (fun hG => ?_);refine AOps.nil ?_;exact ARun.ag (run (dirB dir neg false h) ((by rw [er]; rfl)))
    obtain ⟨s, hs⟩ := ZeU h0;have hl : 0 < (lim c).length := ZB.2 (by omega);have hm := ZjB c;have e2 : decide (c % 2 = 1) = decide (((c % B % 2 : Nat) : Int) = 1) := decide_eq_decide.2 (by omega);refine zdr 24 mixC ?_;refine zdm ?_;refine .op rfl (ZdJ rfl rfl) ?_;refine .op rfl (Znq (d' := .bool true) (Zaa rfl rfl rfl) (congrArg D.bool (decide_eq_true (by omega)))) ?_;refine gd ?_;refine .op rfl (ZdJ rfl rfl) ?_;refine .op rfl (Znq (d' := .bool true) (Zaa rfl rfl rfl) (congrArg D.bool (decide_eq_true (by omega)))) ?_;refine gd ?_;refine .op rfl (Zm rfl rfl rfl rfl (by omega) (by omega) (by rw [hs]; simp) (by rw [hs])) ?_;refine zdl ?_;refine .op rfl (Zdt rfl rfl (by omega) (nrem (n := 2) rfl)) ?_;refine .op rfl (Zaa rfl rfl rfl) ?_;refine .op rfl (Zaw rfl rfl rfl rfl) ?_;refine gd ?_;refine .op rfl (Zb rfl rfl (hH)) ?_;refine .op rfl (Zb rfl rfl (Zkh hdr neg (decide (((c % B % 2 : Nat) : Int) = 1)) h)) ?_;refine .op rfl (Zaw rfl rfl rfl rfl) ?_;refine .nil (fun hG => ?_);refine AOps.nil ?_;exact ARun.ag (run (dirB dir neg (decide (((c % B % 2 : Nat) : Int) = 1)) h) ((by rw [er, e2]; rfl)))
  rintro u hj
  try dsimp only at hj ⊢
  refine Zny (S := Nat) (fun c1 : Nat => [(7, .any), (8, .any), (42, .any), (43, .any), (44, .any), (45, .any), (46, .any), (47, .any), (48, .any), (49, .any), (50, .any), (5, numD c1)]) (fun c1 : Nat => c1 = rnd dir neg (c, decide (r ≠ 0), h)) (fun run => ?_) ?_
  · skip
    refine ARun.cond rfl (fun h1 => ?_) (fun h1 => ?_)
    · skip
      refine go ?_;refine Zc rfl rfl (Zmy) ?_;refine Zc rfl rfl (nAdd c 1 lc (fitW (a := 1) (by decide) (by omega)) (fitW hc1 (by omega))) ?_;refine go ?_;refine Zc rfl rfl (Zd3) ?_;refine zzu ?_; refine Zr ?_; refine zza ?_; refine AOps.nil ?_;exact ARun.ag (run ((c + 1)) (by unfold rnd; rw [if_pos (by rw [← hj]; exact h1)]))
    refine ARun.skip ?_;exact ARun.ag (run (c) (by unfold rnd; rw [if_neg (by rw [← hj, h1]; decide)]))
  rintro c1 hj
  try dsimp only at hj ⊢
  subst hj;refine go ?_;refine Zc rfl rfl (Ze8 neg (rnd dir neg (c, decide (r ≠ 0), h))) ?_;refine go ?_;refine Zns ?_;rfl
abbrev ratL (z : Int) (d : Nat) : List D := [.bool (decide (z < 0)), numD z.natAbs, numD d]
theorem ZkW (z : Int) (d : Nat) (hz : fitZ z) (hd : (lim d).length ≤ 1024) (hd0 : 0 < d) (hg : Nat.gcd z.natAbs d = 1) : PC C 130 [.sl 1 (ratL z d)] (fun o => o = .ret (.tup [])) := by
  refine Znr Tryz.func130 Tryz.ntmps130 Tryz.results130 ?_;refine zzs ?_; refine Zr ?_; refine zzN ?_; refine Zr ?_; refine AOps.nil (ARun.block ?_);refine ARun.loop ?_;refine go ?_;refine Znz rfl ?_;refine go ?_;refine Za rfl (Zm rfl rfl rfl rfl (by decide) (by decide) (by simp) rfl) ?_;refine zzL ?_;refine ZI rfl rfl rfl rfl rfl rfl rfl rfl rfl rfl rfl ?_;refine go ?_;refine Zc rfl rfl (Zh7 z d hz hd hd0 hg) ?_;refine Zc rfl rfl (Ze7 1) ?_;refine gn ?_;refine Za rfl (Zf rfl rfl (IntWalk.i64_in _ (by omega))) ?_;refine Zr ?_; refine AOps.nil ?_;refine ARun.inLoop ?_;refine go ?_;refine Znx rfl ?_;refine ARun.exit rfl ?_;refine ARun.nil ?_;refine ⟨_, _, _, .nil, .nil, rfl, ?_⟩;rfl
theorem Zl4 (H : Heap) : DC C 196 H [.ptr 0 0, .ptr 1 0] .returning (fun m' H' => m' = .returning ∧ H' = H) := by
  refine DC.of_run ZcO ZeD rfl ZeE (by rw [ZeF]) (fun _ h => by cases h) (by simp only [List.length_cons, List.length_nil, Nat.reduceAdd, Nat.reduceSub, List.replicate_succ, List.replicate_zero, List.cons_append, List.nil_append, recD, Zu, List.set_cons_succ, List.set_cons_zero]; exact rfl) rfl (by simp only [recD, Zu, List.set_cons_succ, List.set_cons_zero]; exact rfl) ?_;refine gn ?_;refine Za rfl (ZeJ (by kernel_rfl) rfl) ?_;refine AOps.nil ?_;refine Znz rfl ?_;refine ARun.ret ?_;exact ⟨rfl, rfl, rfl⟩
theorem Zlx (z : Int) (d : Nat) (dir : Int) (hdr : isDir dir) (hz : z.natAbs < 10 ^ 9000) (hd : (lim d).length ≤ 1024) (hd0 : 0 < d) (hg : Nat.gcd z.natAbs d = 1) : PC C 115 [ratD z d, .int .i64 dir] (fun o => o = .ret (.tup [intD (sgnd (decide (z < 0)) (rnd dir (decide (z < 0)) (pc z.natAbs d))), .int .i64 0])) := by
  have lz : fitZ z := fitW hz (by omega);refine Znr Tryz.func115 Tryz.ntmps115 Tryz.results115 ?_;refine go ?_;refine zzb ?_; refine zzA ?_; refine zzA ?_; refine zzt ?_;refine Zc0 rfl rfl rfl ?_;refine go ?_;refine Za rfl (Zd rfl rfl rfl rfl rfl rfl rfl rfl rfl rfl rfl (by decide) (by decide) rfl) ?_;refine Zc rfl rfl (ZkW z d lz hd hd0 hg) ?_;refine go ?_;refine Zc rfl rfl (ZhK) ?_;refine Zr ?_;refine Za rfl (Zmm (kt := 3) (et := Za2) (by kernel_rfl) (by kernel_rfl) rfl rfl rfl rfl rfl (find_ra hdr)) ?_;refine go ?_;refine Zc rfl rfl (Ze7 1) ?_;refine go ?_;refine Zc rfl rfl (ZjV z d dir hdr hz hd hd0) ?_;refine go ?_;refine ARun.ret ?_;refine DC.mono (Zl4 _) ?_;rintro _ _ ⟨rfl, rfl⟩;exact ⟨_, _, _, Znt rfl rfl rfl rfl rfl rfl (Znv rfl rfl rfl rfl rfl .nil), .cons (.same _) (.cons (.same _) .nil), rfl, rfl⟩
theorem den_one {N D : Nat} (h : 0 < D) : D / Nat.gcd N D = 1 ↔ N % D = 0 := by
  have hg : 0 < Nat.gcd N D := Nat.gcd_pos_of_pos_right _ h;obtain ⟨k, hk⟩ := Nat.gcd_dvd_right N D;have h1 : D / Nat.gcd N D = k := Nat.div_eq_of_eq_mul_right hg hk
  constructor
  · intro h2
    rw [h1] at h2;rw [h2, Nat.mul_one] at hk;exact Nat.mod_eq_zero_of_dvd (by rw [hk]; exact Nat.gcd_dvd_left N D)
  intro h2;have h3 : Nat.gcd N D = D := Nat.gcd_eq_right (Nat.dvd_of_mod_eq_zero h2);rw [h3, Nat.div_self h]
theorem pc_gcd {N D : Nat} (h : 0 < D) : pc (N / Nat.gcd N D) (D / Nat.gcd N D) = pc N D := by
  have hg : 0 < Nat.gcd N D := Nat.gcd_pos_of_pos_right _ h;have e1 := Nat.mul_div_cancel' (Nat.gcd_dvd_left N D);have e2 := Nat.mul_div_cancel' (Nat.gcd_dvd_right N D);have := pc_mul (N := N / Nat.gcd N D) (D := D / Nat.gcd N D) hg;rw [e1, e2] at this;exact this.symm
def qN (m : Nat) (up : Int) : Nat := m * 10 ^ up.toNat
def qD (f up : Int) : Nat := 10 ^ min (2 * fP f) (-up).toNat
def Zcb (f dir : Int) (a b : Dt) : Option Oc :=
  if ¬ ((a.cls == 2) = (b.cls == 2)) then none
  else if a.cls = 2 then some (.sp ⟨a, 0⟩)
  else if isZD a = true then some (.sp ⟨⟨f, 1, a.neg, [], b.exp⟩, 0⟩)
  else if ¬ a.exp - b.exp ≤ fP f then none
  else if 10 ^ fP f ≤ rnd dir a.neg (pc (qN (val a.coef) (a.exp - b.exp)) (qD f (a.exp - b.exp))) then none
  else some (.sp ⟨⟨f, 1, a.neg, lim (rnd dir a.neg (pc (qN (val a.coef) (a.exp - b.exp)) (qD f (a.exp - b.exp)))), b.exp⟩, if (pc (qN (val a.coef) (a.exp - b.exp)) (qD f (a.exp - b.exp))).2.1 then 16 else 0⟩)
abbrev rsO (f : Int) (neg : Bool) (c : D) (e fl : Int) : Option AObj := some ⟨[.int .i64 f, .int .i64 1, .bool neg, c, .int .i64 e, .int .i64 fl], Zbd, 1, true, none⟩
theorem Zly (f dir : Int) (a b : Dt) (m n : Nat) (hdr : isDir dir) (ha : dtF f a m) (hb : dtF f b n) (hlen : a.coef.length ≤ 1024) (hok : isZD a = false → ¬ a.cls = 2 → 0 < m) : PC C 113 [fmtD f dir, .sl 2 (Z5 [a, b])] (fun o => o = Zim (Zcb f dir a b)) := by
  have hp := ZW f;have h1 := ha.e1; have h2 := ha.e2; have h3 := hb.e1; have h4 := hb.e2; have hla := ha.lt; have hlb := hb.lt;have hT := Zc8 a m ha.co
  have hv : Zcb f dir a b = (if ¬ ((a.cls == 2) = (b.cls == 2)) then none
  else if a.cls = 2 then some (.sp ⟨a, 0⟩)
  else if isZD a = true then some (.sp ⟨⟨f, 1, a.neg, [], b.exp⟩, 0⟩)
  else if ¬ a.exp - b.exp ≤ fP f then none
  else if 10 ^ fP f ≤ rnd dir a.neg (pc (qN m (a.exp - b.exp)) (qD f (a.exp - b.exp))) then none
  else some (.sp ⟨⟨f, 1, a.neg, lim (rnd dir a.neg (pc (qN m (a.exp - b.exp)) (qD f (a.exp - b.exp)))), b.exp⟩, if (pc (qN m (a.exp - b.exp)) (qD f (a.exp - b.exp))).2.1 then 16 else 0⟩)) := by
    unfold Zcb; rw [ha.co, Zl]
  rw [hv];clear hv;have hac := ha.co;have hbc := hb.co;clear ha hb;obtain ⟨fa, ca, sa, xa, ea⟩ := a;obtain ⟨fb, cb, sb, xb, eb⟩ := b;obtain rfl : xa = lim m := hac;obtain rfl : xb = lim n := hbc;dsimp only at h1 h2 h3 h4 hok hT ⊢;have hZ : isZD ⟨fa, ca, sa, lim m, ea⟩ = (ca == 1 && ((((lim m).length : Nat) : Int) == 0)) := rfl;have lm := fitW hla (by omega);have ln := fitW hlb (by omega);refine Znr Tryz.func113 Tryz.ntmps113 Tryz.results113 ?_;refine go ?_;refine zzb ?_;refine go ?_;refine ZnF (n := 10) (fun S : Nat → Bool => _) [(6, 5, 25, [.int .i64 0, .int .i64 0, .bool false, .nilsl, .int .i64 0], some (8, dtC ⟨fa, ca, sa, lim m, ea⟩)), (7, 6, 25, [.int .i64 0, .int .i64 0, .bool false, .nilsl, .int .i64 0], some (9, dtC ⟨fb, cb, sb, lim n, eb⟩))] (fun _ => False) (sk := [(6, some 8), (7, some 9)]) mixC rfl rfl (by kernel_rfl) rfl (by kernel_rfl) rfl rfl (fun _ _ _ h => h.elim) ?_;refine DChG.op rfl (fun _ => ZaH rfl) (fun _ => rfl) rfl rfl ?_;refine DChG.op rfl (fun _ => Zm rfl rfl rfl rfl (by decide) (by decide) (by simp [Z5]) rfl) (fun _ => rfl) rfl rfl ?_;refine DChG.op rfl (fun _ => Ze rfl rfl rfl rfl rfl) (fun _ => rfl) rfl rfl ?_;refine DChG.op rfl (fun _ => ZaH rfl) (fun _ => rfl) rfl rfl ?_;refine DChG.op rfl (fun _ => Zm rfl rfl rfl rfl (by decide) (by decide) (by simp [Z5]) rfl) (fun _ => rfl) rfl rfl ?_;refine DChG.op rfl (fun _ => Ze rfl rfl rfl rfl rfl) (fun _ => rfl) rfl rfl ?_;refine .al rfl rfl rfl rfl (fun _ => rfl) rfl rfl rfl ?_;refine .al rfl rfl rfl rfl (fun _ => rfl) rfl rfl rfl ?_;refine .sp (j := 6) rfl rfl rfl rfl rfl rfl rfl (fun _ => rfl) rfl rfl rfl (by kernel_rfl) ?_;refine .sp (j := 7) rfl rfl rfl rfl rfl rfl rfl (fun _ => rfl) rfl rfl rfl (by kernel_rfl) ?_;refine .nil (fun hG => ZnH (as' := [(6, 5, 25, dtC ⟨fa, ca, sa, lim m, ea⟩), (7, 6, 25, dtC ⟨fb, cb, sb, lim n, eb⟩)]) rfl ?_);refine go ?_;refine ZnJ 6 (fun q => ((ca == 2) == (cb == 2)) = false ∧ q = invD) mixC rfl rfl (by kernel_rfl) (fun _ _ h => ⟨_, _, .same _, by rw [h.2]; rfl, by rw [if_pos (by intro h9; rw [h9] at h; simp at h), h.2]; rfl⟩) ?_;refine .op rfl (Ze rfl rfl rfl rfl rfl) ?_;refine .op rfl (Zb rfl rfl (Z3 ⟨fa, ca, sa, lim m, ea⟩)) ?_;refine .op rfl (Ze rfl rfl rfl rfl rfl) ?_;refine .op rfl (Zb rfl rfl (Z3 ⟨fb, cb, sb, lim n, eb⟩)) ?_;refine .op rfl (Zdm rfl rfl rfl) ?_;refine .opP rfl (ZQ (g := ((ca == 2) == (cb == 2)) = true) (d := .tup []) rfl rfl (ZnI (ZbE _))) ?_;refine .nil (fun hG => ?_);refine go ?_;refine Zc rfl rfl (Z3 ⟨fa, ca, sa, lim m, ea⟩) ?_;refine AOps.nil ?_;have hG1 : ((ca == 2) == (cb == 2)) = true := (‹True ∧ ((ca == 2) == (cb == 2)) = true›).2
  have hg' : ¬ ¬ ((ca == 2) = (cb == 2)) := fun h => h (eq_of_beq hG1)
  rw [if_neg hg'];refine ARun.cond rfl (fun h => ?_) (fun h => ?_)
  · skip
    have h : ca = 2 := by simpa using h
    refine go ?_;refine Zc rfl rfl (Zbg ⟨fa, ca, sa, lim m, ea⟩ (by dsimp only; omega)) ?_;refine gn ?_;refine Za rfl (ZH rfl rfl rfl) ?_;refine go ?_;refine Zno ?_;rw [if_pos h]; try rfl
  have h : ¬ ca = 2 := by simpa using h
  rw [if_neg h];refine go ?_;refine Zc rfl rfl (Zcg ⟨fa, ca, sa, lim m, ea⟩) ?_;refine AOps.nil ?_;refine ARun.cond rfl (fun h5 => ?_) (fun h5 => ?_)
  · skip
    refine gn ?_;refine Za rfl (ZH rfl rfl rfl) ?_;refine go ?_;refine ARun.ret ?_;refine ⟨_, _, _, .tmp rfl .nil, .cons (.iface (ZfY f 1 sa eb 0)) .nil, rfl, ?_⟩;rw [if_pos (by rw [hZ]; exact h5)]; rfl
  have h5' : ¬ isZD ⟨fa, ca, sa, lim m, ea⟩ = true := by rw [hZ, h5]; decide
  rw [if_neg h5'];have hm0 : 0 < m := hok (by rw [hZ]; exact h5) h;obtain ⟨up, hup⟩ : ∃ up, ea - eb = up := ⟨_, rfl⟩;rw [hup]
  have hupb : -200000 ≤ up ∧ up ≤ 200000 := by omega
  refine gn ?_;refine Za rfl (Zk rfl rfl (r := up) (by rw [IntWalk.i64_in _ (by dsimp only; omega)]; exact hup)) ?_;refine go ?_;refine Zan rfl (ZQ rfl rfl (ZnI (ZbE _))) (fun hg => ?_) (fun q hq => by obtain ⟨hq, rfl⟩ := hq; exact ⟨_, _, .same _, rfl, by rw [if_pos (by simpa using hq)]; rfl⟩)
  have hg2 : up ≤ (fP f : Int) := by simpa using hg
  rw [if_neg (by omega)];have hN : qN m up < 10 ^ (2 * fP f) := Zak hla (by omega);have hN0 : 0 < qN m up := Nat.mul_pos hm0 (Nat.pow_pos (by omega));have hD0 : 0 < qD f up := Nat.pow_pos (by omega);have hDl : (lim (qD f up)).length ≤ 1024 := fitT (by omega);have hTm := Zej (sgnd sa m) (10 ^ up.toNat) (by unfold fitZ; rw [Zw]; exact lm) (fitT (by omega)) (by rw [Zgh]; unfold fitZ; rw [Zw]; exact fitW hN (by omega));rw [Zgh] at hTm;have hNw := ZhF (sgnd sa (qN m up)) (qD f up) (by unfold fitZ; rw [Zw]; exact fitW hN (by omega)) hDl hD0;rw [Zw, ZaO, decide_eq_true hN0, Bool.and_true] at hNw;have hpc := pc_gcd (N := qN m up) hD0;have hde := den_one (N := qN m up) hD0;have hgp : 0 < Nat.gcd (qN m up) (qD f up) := Nat.gcd_pos_of_pos_right _ hD0
  have hco : Nat.gcd (qN m up / Nat.gcd (qN m up) (qD f up)) (qD f up / Nat.gcd (qN m up) (qD f up)) = 1 := by
    rw [Nat.gcd_div (Nat.gcd_dvd_left _ _) (Nat.gcd_dvd_right _ _), Nat.div_self hgp]
  have hn1 : 0 < qN m up / Nat.gcd (qN m up) (qD f up) := Nat.div_pos (Nat.gcd_le_left _ hN0) hgp;have he1 : 0 < qD f up / Nat.gcd (qN m up) (qD f up) := Nat.div_pos (Nat.gcd_le_right _ hD0) hgp;have hnl : qN m up / Nat.gcd (qN m up) (qD f up) < 10 ^ (2 * fP f) := Nat.lt_of_le_of_lt (Nat.div_le_self _ _) hN;have hel : (lim (qD f up / Nat.gcd (qN m up) (qD f up))).length ≤ 1024 := Nat.le_trans (Zn (Nat.div_le_self _ _)) hDl
  have hin : (pc (qN m up) (qD f up)).2.1 = decide (1 < qD f up / Nat.gcd (qN m up) (qD f up)) := by
    show decide (qN m up % qD f up ≠ 0) = _;refine decide_eq_decide.2 ⟨fun h6 => ?_, fun h6 h7 => ?_⟩
    · have := fun h7 => h6 (hde.1 h7)
      omega
    have := hde.2 h7; omega
  rw [hin, ← hpc];have hDe : 10 ^ (min (2 * fP f) (-up).toNat) = qD f up := rfl;have hNe : m * 10 ^ up.toNat = qN m up := rfl;rw [hNe] at hTm;clear hpc hde hgp hin hD0 hDl hN hN0;generalize qN m up / Nat.gcd (qN m up) (qD f up) = N' at *;generalize qD f up / Nat.gcd (qN m up) (qD f up) = e at *
  have hzs : decide (sgnd sa N' < 0) = sa := by rw [ZaO, decide_eq_true hn1, Bool.and_true]
  have hRd := Zlx (sgnd sa N') e dir hdr (by rw [Zw]; exact @ZG _ _ 9000 hnl (by omega)) hel he1 (by rw [Zw]; exact hco)
  have hrl : rnd dir sa (pc N' e) < 10 ^ (2 * fP f + 1) := by
    have h6 := rnd_le dir sa (pc N' e);have h7 : (pc N' e).1 ≤ N' := Nat.div_le_self _ _;rw [Nat.pow_succ]; omega
  unfold ratD intD at hRd;unfold ratD at hNw;rw [hzs, Zw, Zw] at hRd;rw [hzs, Zw] at hNw;generalize rnd dir sa (pc N' e) = r at *;generalize decide (sgnd sa r < 0) = bb at *;have lr := fitW hrl (by omega);refine go ?_;refine ZnF (n := 22) (fun S : Nat → Bool => [rsO f sa .nilsl eb 0]) [(20, 9, 62, [.bool false, .nilsl, .nilsl], some (21, [.bool sa, numD N', numD e]))] (fun _ => False) (sk := [(20, some 21)]) mixC rfl rfl (by kernel_rfl) rfl (by kernel_rfl) rfl rfl (fun _ _ _ h => h.elim) ?_;refine DChG.op rfl (fun _ => Ze rfl rfl rfl rfl rfl) (fun _ => rfl) rfl rfl ?_;refine DChG.op rfl (fun _ => Zb rfl rfl (hT)) (fun _ => rfl) rfl rfl ?_;refine DChG.op rfl (fun _ => Zlj Tryz.underlying108 rfl rfl rfl rfl rfl rfl) (fun _ => rfl) rfl rfl ?_;refine DChG.op rfl (fun _ => ZaH rfl) (fun _ => rfl) rfl rfl ?_;refine DChG.op rfl (fun _ => Znq (Zif rfl rfl) (congrArg (D.int .i64) (by omega : max 0 up = ((up.toNat : Nat) : Int)))) (fun _ => rfl) rfl rfl ?_;refine DChG.op rfl (fun _ => Zb rfl rfl (ZaS up.toNat (by omega))) (fun _ => rfl) rfl rfl ?_;refine DChG.op rfl (fun _ => Zb rfl rfl (hTm)) (fun _ => rfl) rfl rfl ?_;refine DChG.op rfl (fun _ => Zb7 rfl rfl rfl (by decide)) (fun _ => rfl) rfl rfl ?_;refine DChG.op rfl (fun _ => ZP rfl rfl rfl rfl) (fun _ => rfl) rfl rfl ?_;refine DChG.op rfl (fun _ => ZaC rfl rfl (r := ((2 * fP f : Nat) : Int)) (by rw [IntWalk.i64_in _ (by omega)]; omega)) (fun _ => rfl) rfl rfl ?_;refine DChG.op rfl (fun _ => ZaH rfl) (fun _ => rfl) rfl rfl ?_;refine DChG.op rfl (fun _ => Znq (d' := .int .i64 (-up)) (Zg4 rfl (IntWalk.i64_in _ (by omega))) (congrArg (D.int .i64) (by omega))) (fun _ => rfl) rfl rfl ?_;refine DChG.op rfl (fun _ => Zif rfl rfl) (fun _ => rfl) rfl rfl ?_;refine DChG.op rfl (fun _ => Znq (Zgt rfl rfl) (congrArg (D.int .i64) (by omega : min ((2 * fP f : Nat) : Int) (max 0 (-up)) = ((min (2 * fP f) (-up).toNat : Nat) : Int)))) (fun _ => rfl) rfl rfl ?_;refine DChG.op rfl (fun _ => Zb rfl rfl (ZaS (min (2 * fP f) (-up).toNat) (by omega))) (fun _ => rfl) rfl rfl ?_;refine DChG.op rfl (fun _ => Zal rfl rfl rfl rfl rfl) (fun _ => rfl) rfl rfl ?_;refine DChG.op rfl (fun _ => Zb rfl rfl (hNw)) (fun _ => rfl) rfl rfl ?_;refine DChG.op rfl (fun _ => ZaH rfl) (fun _ => rfl) rfl rfl ?_;refine DChG.op rfl (fun _ => ZD rfl rfl) (fun _ => rfl) rfl rfl ?_;refine DChG.op rfl (fun _ => ZD rfl rfl) (fun _ => rfl) rfl rfl ?_;refine .al rfl rfl rfl rfl (fun _ => rfl) rfl rfl rfl ?_;refine .sp (j := 20) rfl rfl rfl rfl rfl rfl rfl (fun _ => rfl) rfl rfl rfl (by kernel_rfl) ?_;refine .nil (fun hG => ZnH (as' := [(20, 9, 62, [.bool sa, numD N', numD e])]) rfl ?_);refine go ?_;refine Zc rfl rfl (hRd) ?_;refine ga ?_;refine ZI rfl rfl rfl rfl rfl rfl rfl rfl rfl rfl rfl ?_;refine go ?_;refine zdr 10 mixC ?_;refine gd ?_;refine .op rfl (Zb rfl rfl (ZaS (fP f) (by omega))) ?_;refine .op rfl (Zb rfl rfl (nCmp r (10 ^ fP f) lr (fitT (by omega)))) ?_;refine zdm ?_;refine .op rfl (ZD rfl rfl) ?_;refine .op rfl (ZD rfl rfl) ?_;refine .op rfl (Za4 rfl) ?_;refine .nil (fun hG => ?_);refine go ?_;refine Zan rfl (ZQ rfl rfl (ZnI (ZbE _))) (fun hg => ?_) (fun q hq => by obtain ⟨hq, rfl⟩ := hq; exact ⟨_, _, .same _, rfl, by rw [if_pos (by rcases Nat.lt_or_ge r (10 ^ fP f) with h6 | h6; (have h7 := Zj hq; have := ZdR.2 h6; omega); exact h6)]; rfl⟩)
  have hrP : ¬ 10 ^ fP f ≤ r := by
    have h7 := ZdR.1 (Zh hg); omega
  rw [if_neg hrP];refine AOps.nil (ARun.seq (ARun.seq ?_));refine Zny (S := Bool) (fun u : Bool => [(96, .any), (97, .any), (98, .any), (99, .any), (100, .any), (101, .any), (102, .any), (103, .any), (104, .any), (105, .any), (106, .bool u)]) (fun u : Bool => u = decide (1 < e)) (fun run => ?_) ?_
  · rcases Nat.lt_or_ge e B with hB | hB
    · have hl1 : (lim e).length ≤ 1 := Zgu (by rw [Nat.pow_one]; exact hB)
      obtain ⟨s, hs⟩ := ZeU he1;have hl : 0 < (lim e).length := ZB.2 (by omega);refine gn ?_;refine Za rfl (Znq (d' := .bool false) (Zaa rfl rfl rfl) (congrArg D.bool (decide_eq_false (by omega)))) ?_;refine go ?_;refine Za rfl (Zm rfl rfl rfl rfl (by omega) (by omega) (by rw [hs]; simp) (by rw [hs, Nat.mod_eq_of_lt hB])) ?_;refine zzl ?_; refine zzi ?_; refine ZK ?_; refine AOps.nil ?_;exact ARun.ag (run (decide (((e : Nat) : Int) > 1)) (decide_eq_decide.2 (by omega)))
    have hl2 : 1 < (lim e).length := by
      apply Classical.byContradiction;intro h6;have := Z6.1 (show (lim e).length ≤ 1 by omega);rw [Nat.pow_one] at this; omega
    refine gn ?_;refine Za rfl (Znq (d' := .bool true) (Zaa rfl rfl rfl) (congrArg D.bool (decide_eq_true (by omega)))) ?_;refine Zr ?_; refine Zg ?_; refine Zg ?_; refine Zg ?_; refine Zg ?_; refine Zg ?_; refine ZK ?_; refine AOps.nil ?_;exact ARun.ag (run (true) ((decide_eq_true (by have := Zbj; unfold B at *; omega)).symm))
  rintro u hj
  try dsimp only at hj ⊢
  subst hj;refine ARun.cond rfl (fun h8 => ?_) (fun h8 => ?_)
  · skip
    rw [if_pos h8];refine gn ?_;refine Za rfl (ZH rfl rfl rfl) ?_;refine go ?_;refine Zno ?_;rfl
  rw [if_neg (by rw [h8]; decide)];refine gn ?_;refine Za rfl (ZH rfl rfl rfl) ?_;refine go ?_;refine Zno ?_;rfl
theorem ZjE {x y : Nat} (h : 0 < y) : ZbB x y ≤ y := by
  have := Nat.mod_lt x h
  unfold ZbB; split <;> omega
theorem remO_W {f : Int} {a b : Dt} {m n : Nat} (ha : dtF f a m) (hb : dtF f b n) (hn0 : isZD b = false → ¬ b.cls = 2 → 0 < n) : ∀ x, remO f a b = some x → ocW f x := by
  intro x hx;have hp := ZW f;have h1 := ha.e1; have h2 := ha.e2; have h3 := hb.e1; have h4 := hb.e2; have hlt := ha.lt; have hlb := hb.lt;have h10 : 1 < 10 ^ fP f := Nat.one_lt_pow (by omega) (by omega);unfold remO at hx
  split at hx
  · cases hx
  rename_i hz
  split at hx
  · injection hx with hx; subst hx
    show a.coef.length ≤ 1024;rw [ha.co]; exact fitW hlt (by omega)
  rename_i hc
  have hn : 0 < n := hn0 (by have := fun h => hz (.inr h); simpa using this) hc
  split at hx
  · injection hx with hx; subst hx
    exact ⟨by rw [ha.ab]; exact ZG hlt (by omega), Nat.one_pos, h10, by omega, by omega⟩
  rename_i hfar
  injection hx with hx; subst hx
  refine ⟨?_, Nat.one_pos, h10, by omega, by omega⟩;rw [Zw, ha.co, hb.co, Zl, Zl];unfold remP
  split
  · exact Nat.lt_of_le_of_lt (ZjE hn) (ZG hlb (by omega))
  exact Nat.lt_of_le_of_lt (ZjE (Nat.mul_pos hn (Nat.pow_pos (by omega)))) (Zak hlb (by omega))
theorem quanO_W {f dir : Int} {a b : Dt} {m : Nat} (ha : dtF f a m) : ∀ x, Zcb f dir a b = some x → ocW f x := by
  intro x hx;have hp := ZW f;unfold Zcb at hx
  split at hx
  · cases hx
  split at hx
  · injection hx with hx; subst hx
    show a.coef.length ≤ 1024;rw [ha.co]; exact fitW ha.lt (by omega)
  split at hx
  · injection hx with hx; subst hx; exact Nat.zero_le _
  split at hx
  · cases hx
  split at hx
  · cases hx
  rename_i hr
  injection hx with hx; subst hx
  exact fitW (Nat.lt_of_not_le hr) (by omega)
theorem dt_pos {d : Dt} {n : Nat} {f : Int} (h : dtF f d n) (ho : okD d = true) (hN : isN d = false) : isZD d = false → ¬ d.cls = 2 → 0 < n := fun hz h3 => by
  have hc := Zc4 ho hN h3;unfold isZD at hz;rw [hc, h.co, lenz] at hz
  have : ¬ n = 0 := by simpa using hz
  omega
theorem Zgj {a b : Dt} {dir : Int} (h : chkL a [a, b] dir = 0) (hN : nanO [a, b] = none) : isDir dir ∧ okD a = true ∧ okD b = true ∧ isN a = false ∧ isN b = false := by
  obtain ⟨hdr, hall, hfm⟩ := Zbn h;simp only [List.all_cons, List.all_nil, Bool.and_true, Bool.and_eq_true] at hall;have h2 := (Zf1 hN).1;simp at h2;exact ⟨hdr, hall.1, hall.2, by simpa using h2.1, by simpa using h2.2⟩
theorem dtF_len {f : Int} {d : Dt} {n : Nat} (h : dtF f d n) : d.coef.length ≤ 1024 := by
  have hp := ZW f;rw [h.co]; exact fitW h.lt (by omega)
theorem Zki (a b : Dt) (ha : U32 a.coef ∧ a.coef.length ≤ 35184372088832) (hb : U32 b.coef ∧ b.coef.length ≤ 35184372088832) : PC Cd 31 [dtD a, dtD b] (fun o => o = .ret (.tup [rsD (ZR a [a, b] 1 (remO a.fmt a b)).1, .int .i64 (ZR a [a, b] 1 (remO a.fmt a b)).2])) := by
  have hD := ZcJ a [b] 2 1 102 (remO a.fmt a b) rfl (ZeW ha hb) (fun h hN => by
    obtain ⟨hf, m, n, hm, hn⟩ := ZbQ ha.1 hb.1 h;obtain ⟨hdr, o1, o2, n1, n2⟩ := Zgj h hN
    exact PC.gl (Zl3 a.fmt 1 a b m n hm hn (dtF_len hm) (dt_pos hn o2 n2))) (fun h hN => by
    obtain ⟨hf, m, n, hm, hn⟩ := ZbQ ha.1 hb.1 h;obtain ⟨hdr, o1, o2, n1, n2⟩ := Zgj h hN
    exact remO_W hm hn (dt_pos hn o2 n2))
  refine Znr Tryz.func31 Tryz.ntmps31 Tryz.results31 ?_;refine go ?_;refine zzb ?_; refine zzb ?_;refine go ?_;refine Za rfl (Zd rfl rfl rfl rfl rfl rfl rfl rfl rfl rfl rfl (by decide) (by decide) rfl) ?_;refine Zc rfl rfl (hD) ?_;refine go ?_;refine ARun.ret ?_;refine ⟨_, _, _, Znt rfl rfl rfl rfl rfl rfl (.tmp rfl .nil), .cons (.same _) (.cons (.same _) .nil), rfl, ?_⟩;rfl
theorem Zd5 (a b : Dt) (dir : Int) (ha : U32 a.coef ∧ a.coef.length ≤ 35184372088832) (hb : U32 b.coef ∧ b.coef.length ≤ 35184372088832) : PC Cd 33 [dtD a, dtD b, .int .i64 dir] (fun o => o = .ret (.tup [rsD (ZR a [a, b] dir (Zcb a.fmt dir a b)).1, .int .i64 (ZR a [a, b] dir (Zcb a.fmt dir a b)).2])) := by
  have hD := ZcJ a [b] 2 dir 113 (Zcb a.fmt dir a b) rfl (ZeW ha hb) (fun h hN => by
    obtain ⟨hf, m, n, hm, hn⟩ := ZbQ ha.1 hb.1 h;obtain ⟨hdr, o1, o2, n1, n2⟩ := Zgj h hN
    exact PC.gl (Zly a.fmt dir a b m n hdr hm hn (dtF_len hm) (dt_pos hm o1 n1))) (fun h hN => by
    obtain ⟨hf, m, n, hm, hn⟩ := ZbQ ha.1 hb.1 h
    exact quanO_W hm)
  refine Znr Tryz.func33 Tryz.ntmps33 Tryz.results33 ?_;refine go ?_;refine zzb ?_; refine zzb ?_;refine go ?_;refine Za rfl (Zd rfl rfl rfl rfl rfl rfl rfl rfl rfl rfl rfl (by decide) (by decide) rfl) ?_;refine Zc rfl rfl (hD) ?_;refine go ?_;refine ARun.ret ?_;refine ⟨_, _, _, Znt rfl rfl rfl rfl rfl rfl (.tmp rfl .nil), .cons (.same _) (.cons (.same _) .nil), rfl, ?_⟩;rfl
theorem dcs_ret (H : Heap) : DC Cd 116 H [.ptr 1 0] .returning (fun m' H' => m' = .returning ∧ H' = H) := by
  refine DC.of_run ZbX ZcW rfl ZcX (by rw [ZcY]) (fun _ h => by cases h) (by simp only [List.length_cons, List.length_nil, Nat.reduceAdd, Nat.reduceSub, List.replicate_succ, List.replicate_zero, List.cons_append, List.nil_append, recD, Zu, List.set_cons_succ, List.set_cons_zero]; exact rfl) rfl (by simp only [recD, Zu, List.set_cons_succ, List.set_cons_zero]; exact rfl) ?_;refine gn ?_;refine Za rfl (Zf8 (by kernel_rfl) rfl) ?_;refine AOps.nil ?_;refine Znx rfl ?_;refine ARun.skip ?_;refine ARun.nil ?_;exact ⟨rfl, rfl, rfl⟩
theorem dcs_fail (e : Int) : DC Cd 116 [rs0, erO 0] [.ptr 1 0] (.panicking (ZdI e)) (fun m' H' => m' = .recovered (ZdI e) ∧ H' = [rs0, erO e]) := by
  refine DC.of_run ZbX ZcW rfl ZcX (by rw [ZcY]) (fun _ h => by cases h) (by simp only [List.length_cons, List.length_nil, Nat.reduceAdd, Nat.reduceSub, List.replicate_succ, List.replicate_zero, List.cons_append, List.nil_append, recD, Zu, List.set_cons_succ, List.set_cons_zero]; exact rfl) rfl (by simp only [recD, Zu, List.set_cons_succ, List.set_cons_zero]; exact rfl) ?_;refine gn ?_;refine Za rfl (q_ifNe (by kernel_rfl) rfl) ?_;refine AOps.nil ?_;refine Znz rfl ?_;refine gn ?_;refine Za rfl (ZcG rfl rfl rfl) ?_;refine ga ?_;refine ZI rfl rfl rfl rfl rfl rfl rfl rfl rfl rfl rfl ?_;refine go ?_;refine Znx rfl ?_;refine gn ?_;refine Za rfl (q_nil rfl rfl) ?_;refine zzT ?_; refine AOps.nil ?_;refine ARun.nil ?_;exact ⟨rfl, rfl, rfl⟩
def ZhZ (m P : Nat) (n : Int) : Nat := if 0 ≤ n then m * 10 ^ n.toNat % 10 ^ P else m / 10 ^ (-n).toNat
def Zf3 (a : Dt) (n : Int) : Rs × Int :=
  if chkL a [a] 1 = 0 then (if -(fP a.fmt : Int) ≤ n ∧ n ≤ fP a.fmt then (match nanO [a] with
    | some r => (r, 0)
    | none => (⟨⟨a.fmt, a.cls, a.neg, lim (ZhZ (val a.coef) (fP a.fmt) n), a.exp⟩, 0⟩, 0)) else (rsZ, 1)) else (rsZ, chkL a [a] 1)
abbrev dtO (d : Dt) : Option AObj := some ⟨dtC d, Zdl, 1, true, none⟩
theorem Zlz (a : Dt) (n : Int) (hn1 : -9223372036854775808 ≤ n) (hn2 : n ≤ 9223372036854775807) (ha : U32 a.coef ∧ a.coef.length ≤ 35184372088832) : PC Cd 59 [dtD a, .int .i64 n] (fun o => o = .ret (.tup [rsD (Zf3 a n).1, .int .i64 (Zf3 a n).2])) := by
  have hp := ZW a.fmt
  have hu : ∀ d ∈ [a], U32 d.coef ∧ d.coef.length ≤ 35184372088832 := fun d hd => by rw [List.mem_singleton.1 hd]; exact ha
  have hN := Zkb [a] 1 rfl (fun d hd => (hu d hd).2);obtain ⟨R, hR⟩ : ∃ R, R = Zf3 a n := ⟨_, rfl⟩;rw [← hR]
  have pan : ∀ (e : Int) (env : List D), env[4]? = some (.ptr 0 0) → env[5]? = some (.ptr 1 0) → R = (rsZ, e) → (QFin Cd [.cell 4 Zbd, .cell 5 ZL] fun o x => o.pure = true ∧ o = .ret (.tup [rsD R.1, .int .i64 R.2])) (.pan (ZdI e)) env [rs0, erO 0] [.fn 116 [.ptr 1 0]] := by
    intro e env h6 h7 hr;refine DC.mono (dcs_fail e) ?_;rintro _ _ ⟨rfl, rfl⟩;exact ⟨_, _, _, Znt h6 rfl rfl rfl rfl rfl (Znv h7 rfl rfl rfl rfl .nil), .cons (ZfY 0 0 false 0 0) (.cons (.same _) .nil), rfl, by rw [hr]; rfl⟩
  refine Znr Tryz.func59 Tryz.ntmps59 Tryz.results59 ?_;refine go ?_;refine zzb ?_; refine zzA ?_; refine zzA ?_; refine zzt ?_;refine Zc0 rfl rfl rfl ?_;refine go ?_;refine Za rfl (Zd rfl rfl rfl rfl rfl rfl rfl rfl rfl rfl rfl (by decide) (by decide) rfl) ?_;refine Zan rfl (ZQ rfl rfl (ZnI (Zd4 a [] 1 1 rfl (fun d hd => (hu d hd).1)))) (fun hg => ?_) (fun q hq => by obtain ⟨hq, rfl⟩ := hq; exact pan _ _ rfl rfl (by rw [hR]; unfold Zf3; rw [if_neg hq]));refine ZI rfl rfl rfl rfl rfl rfl rfl rfl rfl rfl rfl ?_;refine gn ?_;refine Za rfl (Znq (d' := .int .i64 (-(fP a.fmt : Int))) (Zg4 rfl (IntWalk.i64_in _ (by omega))) (congrArg (D.int .i64) (by omega))) ?_;refine zzi ?_; refine Zr ?_;apply Znu 20 (fun sj1 => [(20, .any), (21, .any), (22, .any), (23, .any), (24, .any), (25, .bool sj1)]) rfl
  · intro hj1 run1
    try replace hj1 := Zh hj1
    refine Zr ?_; refine zzf ?_; refine zzl ?_; refine zzi ?_; refine ZK ?_;exact AOps.ag run1
  · intro hj1 run1
    try replace hj1 := Zj hj1
    refine Zg ?_; refine Zg ?_; refine Zg ?_; refine Zg ?_; refine ZK ?_;exact AOps.ag run1
  refine Zan rfl (ZQ rfl rfl (ZnI (PC.gl (Ze9 _ 1)))) (fun hg2 => ?_) (fun q hq => by obtain ⟨hq, rfl⟩ := hq; exact pan _ _ rfl rfl (by rw [hR]; unfold Zf3; rw [if_pos hg, if_neg (fun h => by rw [Bool.and_eq_false_iff] at hq; rcases hq with hq | hq; (exact Zj hq (by omega)); exact Zj hq (by omega))]));rw [Bool.and_eq_true] at hg2;have hg3 : -(fP a.fmt : Int) ≤ n ∧ n ≤ fP a.fmt := ⟨by have := Zh hg2.1; omega, Zh hg2.2⟩;obtain ⟨hf, ho, m, hm⟩ := ZiJ ha.1 hg;have hlt := hm.lt;have lm := fitW hlt (by omega);unfold Zf3 at hR;rw [if_pos hg, if_pos hg3, hm.co, Zl] at hR;have hmc := hm.co;refine go ?_;refine Za rfl (Zd rfl rfl rfl rfl rfl rfl rfl rfl rfl rfl rfl (by decide) (by decide) rfl) ?_;refine Zc rfl rfl (PC.gl hN) ?_;refine ga ?_;refine ZI rfl rfl rfl rfl rfl rfl rfl rfl rfl rfl rfl ?_;refine go ?_;refine ARun.cond rfl (fun hnn => ?_) (fun hnn => ?_)
  · skip
    obtain ⟨r, hr⟩ := Option.isSome_iff_exists.1 hnn;rw [hr] at hR ⊢;refine go ?_;refine ARun.ret ?_;refine DC.mono (dcs_ret _) ?_;rintro _ _ ⟨rfl, rfl⟩;exact ⟨_, _, _, Znt rfl rfl rfl rfl rfl rfl (Znv rfl rfl rfl rfl rfl .nil), .cons (.same _) (.cons (.same _) .nil), rfl, by rw [hR]; rfl⟩
  have hnn : nanO [a] = none := by simpa using hnn
  rw [hnn] at hR ⊢;refine go ?_;refine Zc rfl rfl (PC.gl (Zbg a ha.2)) ?_;refine go ?_;refine ARun.cond rfl (fun h => ?_) (fun h => ?_)
  · skip
    obtain ⟨k, rfl⟩ := Int.eq_ofNat_of_zero_le (Zh h : n ≥ 0);have hmk : m * 10 ^ k < 10 ^ (fP a.fmt + fP a.fmt) := Zak hlt (by omega);have lmk := fitW hmk (by omega)
    have hMl : PC C 66 [sln .u32 a.coef, numD (10 ^ k)] (fun o => o = .ret (.tup [numD (m * 10 ^ k), .int .i64 0])) := by rw [hmc]; exact nMul m (10 ^ k) lm (fitT (by omega)) lmk
    have hv : ZhZ m (fP a.fmt) (k : Int) = m * 10 ^ k % 10 ^ fP a.fmt := by unfold ZhZ; rw [if_pos (by omega), Int.toNat_natCast]
    rw [hv] at hR;have lv : (lim (m * 10 ^ k % 10 ^ fP a.fmt)).length ≤ 1024 := Nat.le_trans (Zn (Nat.mod_le _ _)) lmk;refine ARun.seq ?_;refine zdr 9 mixC ?_;refine gd ?_;refine .op rfl (Zb rfl rfl (PC.gl (ZaS k (by omega)))) ?_;refine .op rfl (Zb rfl rfl (PC.gl hMl)) ?_;refine zdm ?_;refine .op rfl (ZD rfl rfl) ?_;refine .op rfl (ZD rfl rfl) ?_;refine .op rfl (Za4 rfl) ?_;refine .nil (fun hG => ?_);refine go ?_;refine Zc rfl rfl (PC.gl (ZaS (fP a.fmt) (by omega))) ?_;refine Zc rfl rfl (PC.gl (nDiv (m * 10 ^ k) (10 ^ fP a.fmt) lmk (fitT (by omega)) (Nat.pow_pos (by omega)))) ?_;refine go ?_;refine Zc rfl rfl (PC.gl (Zbg ⟨a.fmt, a.cls, a.neg, lim (m * 10 ^ k % 10 ^ fP a.fmt), a.exp⟩ (by dsimp only; omega))) ?_;refine go ?_;refine ARun.ret ?_;refine DC.mono (dcs_ret _) ?_;rintro _ _ ⟨rfl, rfl⟩;exact ⟨_, _, _, Znt rfl rfl rfl rfl rfl rfl (Znv rfl rfl rfl rfl rfl .nil), .cons (.same _) (.cons (.same _) .nil), rfl, by rw [hR]; rfl⟩
  have h : ¬ n ≥ 0 := Zj h;obtain ⟨k, hk⟩ : ∃ k : Nat, -n = (k : Int) := ⟨(-n).toNat, by omega⟩
  have hkn : (-n).toNat = k := by omega
  have hv : ZhZ m (fP a.fmt) n = m / 10 ^ k := by unfold ZhZ; rw [if_neg h, hkn]
  rw [hv] at hR
  have hDv : PC C 107 [sln .u32 a.coef, numD (10 ^ k)] (fun o => o = .ret (.tup [numD (m / 10 ^ k), numD (m % 10 ^ k), .int .i64 0])) := by rw [hmc]; exact nDiv m (10 ^ k) lm (fitT (by omega)) (Nat.pow_pos (by omega))
  have lv : (lim (m / 10 ^ k)).length ≤ 1024 := Nat.le_trans (Zn (Nat.div_le_self _ _)) lm;refine ZnD (n := 12) (fun S : Nat → Bool => [rs0, erO 0, some ⟨[.int .i64 a.fmt, .int .i64 a.cls, .bool a.neg, bif S 11 then numD (m / 10 ^ k) else sln .u32 a.coef, .int .i64 a.exp], Zdl, 1, true, none⟩]) [] (fun _ => False) (sk := []) mixC rfl rfl (by kernel_rfl) rfl (by kernel_rfl) rfl (fun _ _ _ h => h.elim) ?_;refine DChG.op rfl (fun _ => Zb7 rfl rfl rfl (by decide)) (fun _ => rfl) rfl rfl ?_;refine ZnL rfl (fun S hn hd hc => OpQ.pre (H1 := [rs0, erO 0, some ⟨[.int .i64 a.fmt, .int .i64 a.cls, .bool a.neg, bif false then numD (m / 10 ^ k) else sln .u32 a.coef, .int .i64 a.exp], Zdl, 1, true, none⟩]) (by simp only [(clF hc hn (by kernel_rfl) : S 11 = false)]) (ZP rfl rfl rfl rfl)) (fun _ => rfl) rfl rfl ?_;refine DChG.op rfl (fun _ => ZaH rfl) (fun _ => rfl) rfl rfl ?_;refine DChG.op rfl (fun _ => Znq (d' := .int .i64 (k : Int)) (Zg4 rfl (IntWalk.i64_in _ (by omega))) (congrArg (D.int .i64) (by omega))) (fun _ => rfl) rfl rfl ?_;refine DChG.op rfl (fun _ => Zb rfl rfl (PC.gl (ZaS k (by omega)))) (fun _ => rfl) rfl rfl ?_;refine DChG.op rfl (fun _ => Zb rfl rfl (PC.gl hDv)) (fun _ => rfl) rfl rfl ?_;refine DChG.op rfl (fun _ => ZaH rfl) (fun _ => rfl) rfl rfl ?_;refine DChG.op rfl (fun _ => ZD rfl rfl) (fun _ => rfl) rfl rfl ?_;refine DChG.op rfl (fun _ => ZD rfl rfl) (fun _ => rfl) rfl rfl ?_;refine DChG.op rfl (fun _ => ZD rfl rfl) (fun _ => rfl) rfl rfl ?_;refine DChG.op rfl (fun _ => ZZ rfl rfl rfl (by decide)) (fun _ => rfl) rfl rfl ?_;refine ZnM rfl (fun S hn hd hc => ZnN (H1 := [rs0, erO 0, some ⟨[.int .i64 a.fmt, .int .i64 a.cls, .bool a.neg, bif false then numD (m / 10 ^ k) else sln .u32 a.coef, .int .i64 a.exp], Zdl, 1, true, none⟩]) (H3 := [rs0, erO 0, some ⟨[.int .i64 a.fmt, .int .i64 a.cls, .bool a.neg, bif true then numD (m / 10 ^ k) else sln .u32 a.coef, .int .i64 a.exp], Zdl, 1, true, none⟩]) (by simp only [hn]) rfl (Zad rfl rfl rfl rfl rfl rfl (Nat.le_of_ble_eq_true rfl) rfl)) rfl rfl ?_;refine .nil (fun hG => AOps.fin (n := 3) (as' := []) (H' := [rs0, erO 0, dtO ⟨a.fmt, a.cls, a.neg, lim (m / 10 ^ k), a.exp⟩]) rfl rfl rfl ?_);refine go ?_;refine Zc rfl rfl (PC.gl (Zbg ⟨a.fmt, a.cls, a.neg, lim (m / 10 ^ k), a.exp⟩ (by dsimp only; omega))) ?_;refine go ?_;refine ARun.ret ?_;refine DC.mono (dcs_ret _) ?_;rintro _ _ ⟨rfl, rfl⟩;exact ⟨_, _, _, Znt rfl rfl rfl rfl rfl rfl (Znv rfl rfl rfl rfl rfl .nil), .cons (.same _) (.cons (.same _) .nil), rfl, by rw [hR]; rfl⟩
def dt0 (c : Nat) (e : Int) : Dt := ⟨6, 1, false, if c = 0 then [] else [c], e⟩
theorem RS_x {f : Int} {neg : Bool} {dir prefer : Int} {x : Nm} {c : Nat} {h : Int} (q : Int) (c' : Nat) (q' : Int) (hn : 0 < x.n) (hd : 0 < x.d) (h1 : x.at q = (c, false, h)) (hq : fLo f ≤ q ∧ c < 10 ^ fP f ∧ (q = fLo f ∨ 10 ^ (fP f - 1) ≤ c)) (h2 : q ≤ fHi f) (h3 : IsE c q prefer (fHi f) c' q') : RS f neg dir prefer x = ⟨finD f neg c' q', 0⟩ :=
  Zig hn hd ⟨q, ⟨hq.1, by rw [h1]; exact hq.2.1, by rw [h1]; exact hq.2.2⟩, .inl ⟨by rw [h1], h2, c', q', by rw [h1]; exact h3, rfl⟩⟩
theorem RS_i {f : Int} {neg : Bool} {dir prefer : Int} {x : Nm} {c : Nat} {h : Int} (q : Int) (hn : 0 < x.n) (hd : 0 < x.d) (h1 : x.at q = (c, true, h)) (hq : fLo f ≤ q ∧ c < 10 ^ fP f ∧ (q = fLo f ∨ 10 ^ (fP f - 1) ≤ c)) : RS f neg dir prefer x = inx f neg dir q (c, true, h) :=
  Zig hn hd ⟨q, ⟨hq.1, by rw [h1]; exact hq.2.1, by rw [h1]; exact hq.2.2⟩, .inr ⟨.inl (by rw [h1]), by rw [h1]⟩⟩
theorem ZjF {f : Int} {neg : Bool} {c : Nat} {q : Int} (h0 : c ≠ 0) (h : c < 4294967296) : finD f neg c q = ⟨f, 1, neg, [c], q⟩ := by unfold finD; rw [Zfm h0 h]
theorem sane_1 : addG (dt0 1 0) (dt0 1 (-20)) 1 = (⟨⟨6, 1, false, [1000000], -6⟩, 16⟩, 0) := by
  unfold addG;rw [if_pos (by kernel_rfl), show nanO [dt0 1 0, dt0 1 (-20)] = none from rfl];show (if _ then _ else if _ then _ else if _ then _ else (sumR ⟨false, 1, 0, false⟩ ⟨false, 1, -20, false⟩ 6 1, (0 : Int))) = _;rw [if_neg (by decide), if_neg (by decide), if_neg (by decide)];unfold sumR
  have hp : ZbG ⟨false, 1, 0, false⟩ ⟨false, 1, -20, false⟩ = ⟨false, 100000000000000000001, -20, false⟩ := by
    unfold ZbG Zef;rw [if_neg (by decide), if_neg (by decide), if_neg (by decide), if_neg (by decide), if_pos rfl];rfl
  rw [hp, if_neg (by decide)];rw [show nmOf 100000000000000000001 (-20) false = ⟨100000000000000000001, 1, -20⟩ from rfl];rw [RS_i (c := 1000000) (h := -1) (-6) (by decide) (by decide) (by kernel_rfl) (by decide)];unfold inx;rw [if_neg (by decide), show rnd 1 false (1000000, true, -1) = 1000000 from rfl, if_neg (by decide), if_neg (by decide), ZjF (by decide) (by decide)];rfl
theorem sane_2 : subG (dt0 5 0) (dt0 50 (-1)) 5 = (⟨⟨6, 1, true, [], -1⟩, 0⟩, 0) := by
  unfold subG;rw [if_neg (by decide)];unfold addG;rw [if_pos (by kernel_rfl), show nanO [dt0 5 0, { dt0 50 (-1) with neg := !(dt0 50 (-1)).neg }] = none from rfl];show (if _ then _ else if _ then _ else if _ then _ else (sumR ⟨false, 5, 0, false⟩ ⟨true, 50, -1, false⟩ 6 5, (0 : Int))) = _;rw [if_neg (by decide), if_neg (by decide), if_neg (by decide)];unfold sumR
  have hp : ZbG ⟨false, 5, 0, false⟩ ⟨true, 50, -1, false⟩ = ⟨false, 0, -1, false⟩ := by
    unfold ZbG Zef;rw [if_neg (by decide), if_neg (by decide), if_neg (by decide), if_neg (by decide), if_neg (by decide), if_neg (by decide)];rfl
  rw [hp, if_pos (by decide), if_neg (by decide), ZcF rfl];unfold zro finD;rw [ZA];rfl
theorem ZiK {d0 : Dt} {l : List Dt} {dir : Int} {z : Int} {d : Nat} {e : Int} {neg : Bool} {prefer : Int} {oc : Option Oc} (hc : chkL d0 l dir = 0) (hn : nanO l = none) (ho : oc = some (.ex z d e neg prefer)) (hz : z ≠ 0) : ZR d0 l dir oc = (RS d0.fmt (decide (z < 0)) dir prefer ⟨z.natAbs, d, e⟩, 0) := by
  unfold ZR;rw [if_pos hc, hn, ho];show (RS d0.fmt (if z = 0 then neg else decide (z < 0)) dir prefer ⟨z.natAbs, d, e⟩, (0 : Int)) = _;rw [if_neg hz]
theorem Zdk {d0 : Dt} {l : List Dt} {dir : Int} {r : Rs} {oc : Option Oc} (hc : chkL d0 l dir = 0) (hn : nanO l = none) (ho : oc = some (.sp r)) : ZR d0 l dir oc = (r, 0) := by
  unfold ZR;rw [if_pos hc, hn, ho]; rfl
theorem Zep {d0 : Dt} {l : List Dt} {dir : Int} {oc : Option Oc} (hc : chkL d0 l dir = 0) (hn : nanO l = none) (ho : oc = none) : ZR d0 l dir oc = (⟨⟨d0.fmt, 3, false, [], 0⟩, 1⟩, 0) := by
  unfold ZR;rw [if_pos hc, hn, ho]
theorem sane_3 : ZR (dt0 25 (-1)) [dt0 25 (-1), dt0 4 0] 1 (mulO 6 (dt0 25 (-1)) (dt0 4 0)) = (⟨⟨6, 1, false, [100], -1⟩, 0⟩, 0) := by
  rw [ZiK (z := 100) (d := 1) (e := -1) (neg := false) (prefer := -1) (by kernel_rfl) rfl (by kernel_rfl) (by decide)];show (RS 6 false 1 (-1) ⟨100, 1, -1⟩, (0 : Int)) = _;rw [RS_x (c := 1000000) (h := -1) (-5) 100 (-1) (by decide) (by decide) (by kernel_rfl) (by decide) (by decide) ⟨by decide, by decide, .inr (by decide), .inl (by decide)⟩, ZjF (by decide) (by decide)]
theorem sane_4 : ZR (dt0 1 0) [dt0 1 0, dt0 4 0] 1 (divO 6 (dt0 1 0) (dt0 4 0)) = (⟨⟨6, 1, false, [25], -2⟩, 0⟩, 0) := by
  rw [ZiK (z := 1) (d := 4) (e := 0) (neg := false) (prefer := 0) (by kernel_rfl) rfl (by kernel_rfl) (by decide)];show (RS 6 false 1 0 ⟨1, 4, 0⟩, (0 : Int)) = _;rw [RS_x (c := 2500000) (h := -1) (-7) 25 (-2) (by decide) (by decide) (by kernel_rfl) (by decide) (by decide) ⟨by decide, by decide, .inr (by decide), .inr (.inr (by decide))⟩, ZjF (by decide) (by decide)]
theorem sane_5 : ZR (dt0 1 0) [dt0 1 0, dt0 0 5] 1 (divO 6 (dt0 1 0) (dt0 0 5)) = (⟨⟨6, 2, false, [], 0⟩, 2⟩, 0) := Zdk (by kernel_rfl) rfl (by kernel_rfl)
theorem sane_6 : ZR (dt0 4 1) [dt0 4 1] 1 (ZcD 6 (dt0 4 1)) = (⟨⟨6, 1, false, [6324555], -6⟩, 16⟩, 0) := by
  have hs : isq 4000000000000000000000 = 63245553203 := (Zfy _).uniq ⟨by decide, by decide⟩
  have ho : ZcD 6 (dt0 4 1) = some (.ex 632455532031 1 (-11) false 0) := by
    unfold ZcD;rw [if_neg (by decide), if_neg (by decide), if_neg (by decide)]
    have hk : sqK 6 (dt0 4 1).exp = 21 := by kernel_rfl
    rw [hk, show val (dt0 4 1).coef * 10 ^ 21 = 4000000000000000000000 from by kernel_rfl];unfold sqrtV;rw [hs, if_neg (by decide)];rfl
  rw [ZiK (by kernel_rfl) rfl ho (by decide)];show (RS 6 false 1 0 ⟨632455532031, 1, -11⟩, (0 : Int)) = _;rw [RS_i (c := 6324555) (h := -1) (-6) (by decide) (by decide) (by kernel_rfl) (by decide)];unfold inx;rw [if_neg (by decide), show rnd 1 false (6324555, true, -1) = 6324555 from rfl, if_neg (by decide), if_neg (by decide), ZjF (by decide) (by decide)];rfl
theorem sane_7 : ZR (dt0 7 0) [dt0 7 0, dt0 25 (-1)] 1 (remO 6 (dt0 7 0) (dt0 25 (-1))) = (⟨⟨6, 1, true, [5], -1⟩, 0⟩, 0) := by
  rw [ZiK (z := -5) (d := 1) (e := -1) (neg := false) (prefer := -1) (by kernel_rfl) rfl (by kernel_rfl) (by decide)];show (RS 6 true 1 (-1) ⟨5, 1, -1⟩, (0 : Int)) = _;rw [RS_x (c := 5000000) (h := -1) (-7) 5 (-1) (by decide) (by decide) (by kernel_rfl) (by decide) (by decide) ⟨by decide, by decide, .inr (by decide), .inl (by decide)⟩, ZjF (by decide) (by decide)]
theorem sane_8 : ZR (dt0 12345 (-3)) [dt0 12345 (-3), dt0 1 (-1)] 1 (Zcb 6 1 (dt0 12345 (-3)) (dt0 1 (-1))) = (⟨⟨6, 1, false, [123], -1⟩, 16⟩, 0) := by
  refine Zdk (by kernel_rfl) rfl ?_
  have h : rnd 1 (dt0 12345 (-3)).neg (pc (qN (val (dt0 12345 (-3)).coef) ((dt0 12345 (-3)).exp - (dt0 1 (-1)).exp)) (qD 6 ((dt0 12345 (-3)).exp - (dt0 1 (-1)).exp))) = 123 := by kernel_rfl
  unfold Zcb;rw [h, Zfm (by decide) (by decide)];exact (by kernel_rfl : _ = _)
theorem sane_9 : ZR (dt0 12345 (-3)) [dt0 12345 (-3), dt0 1 (-6)] 1 (Zcb 6 1 (dt0 12345 (-3)) (dt0 1 (-6))) = (⟨⟨6, 3, false, [], 0⟩, 1⟩, 0) := Zep (by kernel_rfl) rfl (by kernel_rfl)
theorem sane_0 : Zf3 (dt0 1234567 0) 2 = (⟨⟨6, 1, false, [3456700], 0⟩, 0⟩, 0) := by
  have h : ZhZ (val (dt0 1234567 0).coef) (fP (dt0 1234567 0).fmt) 2 = 3456700 := by kernel_rfl
  unfold Zf3;rw [h, Zfm (by decide) (by decide)];exact (by kernel_rfl : _ = _)
def sameDB (a b : Dt) : Bool := a.fmt == b.fmt && a.cls == b.cls && a.neg == b.neg && a.exp == b.exp && decide (a.coef = b.coef)
def Zh0 (a b : Rs) : Bool := a.fl == b.fl && sameDB a.dt b.dt
theorem sameRB_self (r : Rs) : Zh0 r r = true := by
  unfold Zh0 sameDB; simp
theorem Zir (a b : Dt) : PC C 46 [dtD a, dtD b] (fun o => o = .ret (.bool (sameDB a b))) := by
  have hS := Zj5 a.coef b.coef;refine Znr Tryz.func46 Tryz.ntmps46 Tryz.results46 ?_;refine go ?_;refine zzb ?_; refine zzb ?_; refine zza ?_; refine zzt ?_; refine zzf ?_; refine zzl ?_; refine zzf ?_; refine zzl ?_; refine zzi ?_; refine Zr ?_;apply Znu 10 (fun sj1 => [(10, .any), (11, .any), (12, .any), (13, .any), (14, .any), (15, .any), (16, .bool sj1)]) rfl
  · intro hj1 run1
    try replace hj1 := Zh hj1
    refine zzf ?_; refine zzl ?_; refine zzf ?_; refine zzl ?_; refine zzi ?_; refine ZK ?_;exact AOps.ag run1
  · intro hj1 run1
    try replace hj1 := Zj hj1
    refine Zg ?_; refine Zg ?_; refine Zg ?_; refine Zg ?_; refine Zg ?_; refine ZK ?_;exact AOps.ag run1
  refine Zr ?_;apply Znu 17 (fun sj2 => [(17, .any), (18, .any), (19, .any), (20, .any), (21, .any), (22, .any), (23, .bool sj2)]) rfl
  · intro hj2 run2
    try replace hj2 := Zh hj2
    refine gn ?_;refine Za rfl (Zdm rfl rfl rfl) ?_;refine ZK ?_;exact AOps.ag run2
  · intro hj2 run2
    try replace hj2 := Zj hj2
    refine Zg ?_; refine Zg ?_; refine Zg ?_; refine Zg ?_; refine Zg ?_; refine ZK ?_;exact AOps.ag run2
  refine Zr ?_;apply Znu 24 (fun sj3 => [(24, .any), (25, .any), (26, .any), (27, .any), (28, .any), (29, .any), (30, .bool sj3)]) rfl
  · intro hj3 run3
    try replace hj3 := Zh hj3
    refine zzf ?_; refine zzl ?_; refine zzf ?_; refine zzl ?_; refine zzi ?_; refine ZK ?_;exact AOps.ag run3
  · intro hj3 run3
    try replace hj3 := Zj hj3
    refine Zg ?_; refine Zg ?_; refine Zg ?_; refine Zg ?_; refine Zg ?_; refine ZK ?_;exact AOps.ag run3
  refine Zr ?_;apply Znu 31 (fun sj4 => [(31, .any), (32, .any), (33, .any), (34, .any), (35, .any), (36, .any), (37, .bool sj4)]) rfl
  · intro hj4 run4
    try replace hj4 := Zh hj4
    refine go ?_;refine Zc rfl rfl (hS) ?_;refine ZK ?_;exact AOps.ag run4
  · intro hj4 run4
    try replace hj4 := Zj hj4
    refine Zg ?_; refine Zg ?_; refine Zg ?_; refine Zg ?_; refine Zg ?_; refine ZK ?_;exact AOps.ag run4
  refine go ?_;refine Zno ?_;unfold sameDB; try rfl
theorem Zi9 (a b : Rs) : PC C 45 [rsD a, rsD b] (fun o => o = .ret (.bool (Zh0 a b))) := by
  refine Znr Tryz.func45 Tryz.ntmps45 Tryz.results45 ?_;refine go ?_;refine zzb ?_; refine zzb ?_; refine zza ?_; refine zzt ?_; refine zzf ?_; refine zzl ?_; refine zzf ?_; refine zzl ?_; refine zzi ?_; refine Zr ?_;apply Znu 10 (fun sj1 => [(10, .any), (11, .any), (12, .any), (13, .any), (14, .any), (15, .any), (16, .bool sj1)]) rfl
  · intro hj1 run1
    try replace hj1 := Zh hj1
    refine go ?_;refine Zc rfl rfl (Zir a.dt b.dt) ?_;refine ZK ?_;exact AOps.ag run1
  · intro hj1 run1
    try replace hj1 := Zj hj1
    refine Zg ?_; refine Zg ?_; refine Zg ?_; refine Zg ?_; refine Zg ?_; refine ZK ?_;exact AOps.ag run1
  refine go ?_;refine Zno ?_;rfl
theorem Zae (c : Nat) (e : Int) (hc : c < 4294967296) : PC C 67 [.int .u32 (c : Int), .int .i64 e] (fun o => o = .ret (dtD (dt0 c e))) := by
  refine Znr Tryz.func67 Tryz.ntmps67 Tryz.results67 ?_;refine go ?_;refine Znp rfl (fun h => ?_) (fun h => ?_)
  · skip
    refine go ?_;refine Za rfl (Zd rfl rfl rfl rfl rfl rfl rfl rfl rfl rfl rfl (by decide) (by decide) rfl) ?_;refine go ?_;refine Zns ?_;unfold dt0; rw [if_neg (by omega)]; try rfl
  have h0 : c = 0 := by omega
  subst h0;refine go ?_;refine ARun.ret ?_;refine ⟨_, _, _, Znt rfl rfl rfl rfl rfl rfl .nil, .cons (fz_dt 6 1 false e) .nil, rfl, ?_⟩;rfl
theorem ZlA (r : Rs) (e : Int) (d : Dt) (fl : Int) : PC C 68 [rsD r, .int .i64 e, dtD d, .int .i64 fl] (fun o => o = .ret (.bool (e == 0 && Zh0 r ⟨d, fl⟩))) := by
  refine Znr Tryz.func68 Tryz.ntmps68 Tryz.results68 ?_;refine go ?_;refine zzb ?_; refine zzb ?_; refine zza ?_; refine zzt ?_; refine Zr ?_; refine zzi ?_; refine Zr ?_;apply Znu 11 (fun sj1 => [(11, .any), (12, .any), (13, .any), (14, .any), (15, .any), (16, .any), (17, .bool sj1)]) rfl
  · intro hj1 run1
    try replace hj1 := Zh hj1
    refine go ?_;refine Zc rfl rfl (Zi9 r ⟨d, fl⟩) ?_;refine ZK ?_;exact AOps.ag run1
  · intro hj1 run1
    try replace hj1 := Zj hj1
    refine Zg ?_; refine Zg ?_; refine Zg ?_; refine Zg ?_; refine Zg ?_; refine ZK ?_;exact AOps.ag run1
  refine go ?_;refine Zno ?_;rfl
theorem Zm5 (r w : Rs) (e f : Int) : PC C 21 [rsD r, .int .i64 e, ZfZ w f] (fun o => o = .ret (.bool (e == f && Zh0 r w))) := by
  refine Znr Tryz.func21 Tryz.ntmps21 Tryz.results21 ?_;refine go ?_;refine zzb ?_; refine zzb ?_; refine zza ?_; refine zzt ?_; refine Zr ?_; refine zzf ?_; refine zzl ?_; refine zzi ?_; refine Zr ?_;apply Znu 11 (fun sj1 => [(11, .any), (12, .any), (13, .any), (14, .any), (15, .any), (16, .bool sj1)]) rfl
  · intro hj1 run1
    try replace hj1 := Zh hj1
    refine go ?_;refine Zc rfl rfl (Zi9 r w) ?_;refine ZK ?_;exact AOps.ag run1
  · intro hj1 run1
    try replace hj1 := Zj hj1
    refine Zg ?_; refine Zg ?_; refine Zg ?_; refine Zg ?_; refine ZK ?_;exact AOps.ag run1
  refine go ?_;refine Zno ?_;rfl
def ZcM (l : List Dt) : Bool := l.all fun d => decide (d.coef.length ≤ 1100)
theorem Zdp (m : List Dt) (n : Nat) (hn : m.length = n) : PC C 17 [.sl n (Z5 m)] (fun o => o = .ret (.bool (ZcM m))) := by
  refine Znr Tryz.func17 Tryz.ntmps17 Tryz.results17 ?_;refine ZnG 0 rfl (fun hlen => ?_);rw [Zy] at hlen;refine go ?_;refine Znw (S := Nat) (fun i : Nat => [(2, .any), (4, .any), (5, .any), (6, .any), (7, .any), (8, .any), (9, .any), (10, .any), (11, .any), (12, .any), (13, .any), (14, .any), (15, .any), (16, .any), (3, .int .i64 (i : Int))]) (fun i : Nat => []) (fun i : Nat => i ≤ n ∧ ZcM (m.take i) = true) (fun i : Nat => n - i) (0) ?_ ?_
  · exact ⟨Nat.zero_le _, by simp [ZcM]⟩
  rintro i hinv ih;obtain ⟨i1, i2⟩ := hinv;refine go ?_;refine Znp rfl (fun h => ?_) (fun h => ?_)
  · skip
    have hlt : i < m.length := by omega
    obtain ⟨r, hcd⟩ := ZbA hlt;refine go ?_;refine Za rfl (Zm (ds := dtC m[i] ++ r) rfl rfl rfl rfl (by omega) (by omega) (ZaR hlt) hcd) ?_;refine go ?_;refine ARun.cond rfl (fun h1 => ?_) (fun h1 => ?_)
    · skip
      have h1 := Zh h1;refine go ?_;refine Zno ?_
      have : ZcM m = false := by
        unfold ZcM;rw [List.all_eq_false];exact ⟨m[i], List.getElem_mem hlt, by simp; omega⟩
      rw [this]; try rfl
    have h1 := Zj h1;refine gn ?_;refine Za rfl (Zf rfl rfl (Zi (by omega))) ?_;refine go ?_;refine ARun.ag (ih ((i + 1)) ?_ ?_)
    · exact ⟨by omega, by unfold ZcM at i2 ⊢; rw [Zf0 hlt, i2, Bool.true_and]; exact decide_eq_true (by omega)⟩
    omega
  have he : i = n := by omega
  subst he;rw [show m.take i = m by rw [← hn, List.take_length]] at i2;refine ARun.exit rfl ?_;refine go ?_;refine Zno ?_;rw [i2]; try rfl
theorem dt0_u {c : Nat} {e : Int} (hc : c < 4294967296) : U32 (dt0 c e).coef ∧ (dt0 c e).coef.length ≤ 35184372088832 := by
  unfold dt0
  by_cases h : c = 0
  · simp only [if_pos h]; exact ⟨Zz 0 |> fun h => by rw [ZA] at h; exact h, Nat.zero_le _⟩
  simp only [if_neg h]; refine ⟨?_, by simp⟩;have := Zz c;rw [Zfm h hc] at this; exact this
theorem ZcE {r : Rs} {d : Dt} {fl : Int} (h : Zh0 r ⟨d, fl⟩ = true) : PC Cd 68 [rsD r, .int .i64 0, dtD d, .int .i64 fl] (fun o => o = .ret (.bool true)) := by
  have := PC.gl (gl := Cd.gl) (ZlA r 0 d fl);rw [h] at this; exact this
theorem ZaA : PC Cd 18 [] (fun o => o = .ret (.bool true)) := by
  have u : ∀ {c : Nat} {e : Int}, c < 4294967296 → U32 (dt0 c e).coef ∧ (dt0 c e).coef.length ≤ 35184372088832 := fun h => dt0_u h
  have h1 := Zkd (dt0 1 0) (dt0 1 (-20)) 1 (u (by decide)) (u (by decide));rw [sane_1] at h1;have h2 := Zke (dt0 5 0) (dt0 50 (-1)) 5 (u (by decide)) (u (by decide));rw [sane_2] at h2;have h3 := Zkg (dt0 25 (-1)) (dt0 4 0) 1 (u (by decide)) (u (by decide));rw [show (dt0 25 (-1)).fmt = 6 from rfl, sane_3] at h3;have h4 := ZhJ (dt0 1 0) (dt0 4 0) 1 (u (by decide)) (u (by decide));rw [show (dt0 1 0).fmt = 6 from rfl, sane_4] at h4;have h5 := ZhJ (dt0 1 0) (dt0 0 5) 1 (u (by decide)) (u (by decide));rw [show (dt0 1 0).fmt = 6 from rfl, sane_5] at h5;have h6 := Zi8 (dt0 4 1) 1 (u (by decide));rw [show (dt0 4 1).fmt = 6 from rfl, sane_6] at h6;have h7 := Zki (dt0 7 0) (dt0 25 (-1)) (u (by decide)) (u (by decide));rw [show (dt0 7 0).fmt = 6 from rfl, sane_7] at h7;have h8 := Zd5 (dt0 12345 (-3)) (dt0 1 (-1)) 1 (u (by decide)) (u (by decide));rw [show (dt0 12345 (-3)).fmt = 6 from rfl, sane_8] at h8;have h9 := Zd5 (dt0 12345 (-3)) (dt0 1 (-6)) 1 (u (by decide)) (u (by decide));rw [show (dt0 12345 (-3)).fmt = 6 from rfl, sane_9] at h9;have h0 := Zlz (dt0 1234567 0) 2 (by decide) (by decide) (u (by decide));rw [sane_0] at h0;refine Znr Tryz.func18 Tryz.ntmps18 Tryz.results18 ?_;refine go ?_;refine Zc rfl rfl (PC.gl (Zae 1 0 (by decide))) ?_;refine Zc rfl rfl (PC.gl (Zae 1 (-20) (by decide))) ?_;refine Zc rfl rfl (h1) ?_;refine go ?_;refine Zc rfl rfl (PC.gl (Zae 5 0 (by decide))) ?_;refine Zc rfl rfl (PC.gl (Zae 50 (-1) (by decide))) ?_;refine Zc rfl rfl (h2) ?_;refine go ?_;refine Zc rfl rfl (PC.gl (Zae 25 (-1) (by decide))) ?_;refine Zc rfl rfl (PC.gl (Zae 4 0 (by decide))) ?_;refine Zc rfl rfl (h3) ?_;refine go ?_;refine Zc rfl rfl (PC.gl (Zae 1 0 (by decide))) ?_;refine Zc rfl rfl (PC.gl (Zae 4 0 (by decide))) ?_;refine Zc rfl rfl (h4) ?_;refine go ?_;refine Zc rfl rfl (PC.gl (Zae 1 0 (by decide))) ?_;refine Zc rfl rfl (PC.gl (Zae 0 5 (by decide))) ?_;refine Zc rfl rfl (h5) ?_;refine go ?_;refine Zc rfl rfl (PC.gl (Zae 0 (-1) (by decide))) ?_;refine go ?_;refine zdr 33 mixC ?_;refine .op rfl (Zp rfl rfl rfl rfl rfl rfl) ?_;refine zdm ?_;refine .op rfl (Zb rfl rfl (PC.gl (Zae 1000000 (-6) (by decide)))) ?_;refine .op rfl (Zb rfl rfl (ZcE (r := ⟨⟨6, 1, false, [1000000], -6⟩, 16⟩) (d := dt0 1000000 (-6)) (fl := 16) (by decide))) ?_;refine .op rfl (Zie rfl) ?_;refine zdm ?_;refine .op rfl (Zp rfl rfl rfl rfl rfl rfl) ?_;refine zdm ?_;refine .op rfl (Zp rfl rfl rfl rfl rfl rfl) ?_;refine .op rfl (Zb rfl rfl (ZcE (r := ⟨⟨6, 1, true, [], -1⟩, 0⟩) (d := ⟨6, 1, true, [], -1⟩) (fl := 0) (by decide))) ?_;refine .op rfl (Zie rfl) ?_;refine .op rfl (Zaw rfl rfl rfl rfl) ?_;refine zdm ?_;refine .op rfl (Zp rfl rfl rfl rfl rfl rfl) ?_;refine zdm ?_;refine .op rfl (Zb rfl rfl (PC.gl (Zae 100 (-1) (by decide)))) ?_;refine .op rfl (Zb rfl rfl (ZcE (r := ⟨⟨6, 1, false, [100], -1⟩, 0⟩) (d := dt0 100 (-1)) (fl := 0) (by decide))) ?_;refine .op rfl (Zie rfl) ?_;refine .op rfl (Zaw rfl rfl rfl rfl) ?_;refine zdm ?_;refine .op rfl (Zp rfl rfl rfl rfl rfl rfl) ?_;refine zdm ?_;refine .op rfl (Zb rfl rfl (PC.gl (Zae 25 (-2) (by decide)))) ?_;refine .op rfl (Zb rfl rfl (ZcE (r := ⟨⟨6, 1, false, [25], -2⟩, 0⟩) (d := dt0 25 (-2)) (fl := 0) (by decide))) ?_;refine .op rfl (Zie rfl) ?_;refine .op rfl (Zaw rfl rfl rfl rfl) ?_;refine zdm ?_;refine .op rfl (Zp rfl rfl rfl rfl rfl rfl) ?_;refine zdm ?_;refine .op rfl (Zal rfl rfl rfl rfl rfl) ?_;refine .op rfl (ZgU rfl rfl (.cons (.same _) (.cons (.same _) (.cons (fz_dt 6 2 false 0) (.cons (.same _) .nil)))) (ZcE (r := ⟨⟨6, 2, false, [], 0⟩, 2⟩) (d := ⟨6, 2, false, [], 0⟩) (fl := 2) (by decide))) ?_;refine .op rfl (Zie rfl) ?_;refine .op rfl (Zaw rfl rfl rfl rfl) ?_;refine .nil (fun hG => ?_);refine AOps.nil ?_;refine Znx rfl ?_;refine go ?_;refine Zc rfl rfl (PC.gl (Zae 4 1 (by decide))) ?_;refine Zc rfl rfl (h6) ?_;refine go ?_;refine Zc rfl rfl (PC.gl (Zae 7 0 (by decide))) ?_;refine Zc rfl rfl (PC.gl (Zae 25 (-1) (by decide))) ?_;refine Zc rfl rfl (h7) ?_;refine go ?_;refine Zc rfl rfl (PC.gl (Zae 12345 (-3) (by decide))) ?_;refine Zc rfl rfl (PC.gl (Zae 1 (-1) (by decide))) ?_;refine Zc rfl rfl (h8) ?_;refine go ?_;refine Zc rfl rfl (PC.gl (Zae 12345 (-3) (by decide))) ?_;refine Zc rfl rfl (PC.gl (Zae 1 (-6) (by decide))) ?_;refine Zc rfl rfl (h9) ?_;refine go ?_;refine Zc rfl rfl (PC.gl (Zae 1234567 0 (by decide))) ?_;refine Zc rfl rfl (h0) ?_;refine go ?_;refine Zc rfl rfl (PC.gl (Zae 5 (-1) (by decide))) ?_;refine go ?_;refine zdr 28 mixC ?_;refine .op rfl (Zp rfl rfl rfl rfl rfl rfl) ?_;refine zdm ?_;refine .op rfl (Zb rfl rfl (PC.gl (Zae 6324555 (-6) (by decide)))) ?_;refine .op rfl (Zb rfl rfl (ZcE (r := ⟨⟨6, 1, false, [6324555], -6⟩, 16⟩) (d := dt0 6324555 (-6)) (fl := 16) (by decide))) ?_;refine zdm ?_;refine .op rfl (Zp rfl rfl rfl rfl rfl rfl) ?_;refine zdm ?_;refine .op rfl (Zp rfl rfl rfl rfl rfl rfl) ?_;refine .op rfl (Zb rfl rfl (ZcE (r := ⟨⟨6, 1, true, [5], -1⟩, 0⟩) (d := ⟨6, 1, true, [5], -1⟩) (fl := 0) (by decide))) ?_;refine .op rfl (Zaw rfl rfl rfl rfl) ?_;refine zdm ?_;refine .op rfl (Zp rfl rfl rfl rfl rfl rfl) ?_;refine zdm ?_;refine .op rfl (Zb rfl rfl (PC.gl (Zae 123 (-1) (by decide)))) ?_;refine .op rfl (Zb rfl rfl (ZcE (r := ⟨⟨6, 1, false, [123], -1⟩, 16⟩) (d := dt0 123 (-1)) (fl := 16) (by decide))) ?_;refine .op rfl (Zaw rfl rfl rfl rfl) ?_;refine zdm ?_;refine .op rfl (Zp rfl rfl rfl rfl rfl rfl) ?_;refine zdm ?_;refine .op rfl (Zal rfl rfl rfl rfl rfl) ?_;refine .op rfl (ZgU rfl rfl (.cons (.same _) (.cons (.same _) (.cons (fz_dt 6 3 false 0) (.cons (.same _) .nil)))) (ZcE (r := ⟨⟨6, 3, false, [], 0⟩, 1⟩) (d := ⟨6, 3, false, [], 0⟩) (fl := 1) (by decide))) ?_;refine .op rfl (Zaw rfl rfl rfl rfl) ?_;refine zdm ?_;refine .op rfl (Zp rfl rfl rfl rfl rfl rfl) ?_;refine zdm ?_;refine .op rfl (Zb rfl rfl (PC.gl (Zae 3456700 0 (by decide)))) ?_;refine .op rfl (Zb rfl rfl (ZcE (r := ⟨⟨6, 1, false, [3456700], 0⟩, 0⟩) (d := dt0 3456700 0) (fl := 0) (by decide))) ?_;refine .op rfl (Zaw rfl rfl rfl rfl) ?_;refine .nil (fun hG => ?_);refine go ?_;refine Zno ?_;rfl
theorem is_ok (r : Rs) (e : Int) : PC Cd 21 [rsD r, .int .i64 e, ZfZ r e] (fun o => o = .ret (.bool true)) := by
  have := PC.gl (gl := Cd.gl) (Zm5 r r e e);rw [sameRB_self, Bool.and_true, show (e == e) = true from beq_self_eq_true e] at this;exact this
theorem light2 {a b : Dt} (h : ZcM [a, b] = true) : a.coef.length ≤ 35184372088832 ∧ b.coef.length ≤ 35184372088832 := by
  unfold ZcM at h;simp at h;omega
theorem Zja (a b : Dt) (dir : Int) (ha : U32 a.coef) (hb : U32 b.coef) : PC Cd 3 [dtD a, dtD b, .int .i64 dir] (fun o => o = .ret (.bool true)) := by
  refine Znr Tryz.func3 Tryz.ntmps3 Tryz.results3 ?_;refine go ?_;refine zzb ?_; refine zzb ?_;refine go ?_;refine Za rfl (Zd rfl rfl rfl rfl rfl rfl rfl rfl rfl rfl rfl (by decide) (by decide) rfl) ?_;refine Zc rfl rfl (PC.gl (Zdp [a, b] 2 rfl)) ?_;refine go ?_;refine ARun.cond rfl (fun h => ?_) (fun h => ?_)
  · skip
    refine go ?_;refine Zc rfl rfl (ZaA) ?_;refine go ?_;refine Zno ?_;rfl
  have h : ZcM [a, b] = true := by simpa using h
  obtain ⟨h1, h2⟩ := light2 h;refine go ?_;refine Zc rfl rfl (Zkd a b dir ⟨ha, h1⟩ ⟨hb, h2⟩) ?_;refine go ?_;refine Zc rfl rfl (Zke a b dir ⟨ha, h1⟩ ⟨hb, h2⟩) ?_;refine go ?_;refine zdr 19 mixC ?_;refine .op rfl (Zp rfl rfl rfl rfl rfl rfl) ?_;refine zdm ?_;refine .op rfl (Ze rfl rfl rfl rfl rfl) ?_;refine .op rfl (Ze rfl rfl rfl rfl rfl) ?_;refine zdm ?_;refine .op rfl (Zb rfl rfl (PC.gl (ZhI a b dir ha hb))) ?_;refine .op rfl (Zb rfl rfl (is_ok (addG a b dir).1 (addG a b dir).2)) ?_;refine zdm ?_;refine .op rfl (Zp rfl rfl rfl rfl rfl rfl) ?_;refine zdm ?_;refine .op rfl (Ze rfl rfl rfl rfl rfl) ?_;refine .op rfl (Ze rfl rfl rfl rfl rfl) ?_;refine zdm ?_;refine .op rfl (Zb rfl rfl (PC.gl (Zmx a b dir ha hb))) ?_;refine .op rfl (Zb rfl rfl (is_ok (subG a b dir).1 (subG a b dir).2)) ?_;refine .op rfl (Zaw rfl rfl rfl rfl) ?_;refine zdm ?_;refine .op rfl (Zb rfl rfl (ZaA)) ?_;refine .op rfl (Zaw rfl rfl rfl rfl) ?_;refine .nil (fun hG => ?_);refine go ?_;refine Zno ?_;rfl
open Go.RowKit Go.Proofs Go.ChangeShapes Go.WideShapes Go.ChangeAt Go.ChangeMaps Go.Proofs.YtaglofmanchabaaGreatDoor
theorem ZeX : laidOutB Tryz.prog = true := by kernel_rfl
theorem ownZ : ownKnob Tryz.prog.godebug = none := by kernel_rfl
theorem cell_lt {w : World} {a : Addr} {v : Value} (h : w.cell? a = some v) : a.block < w.heap.size := by
  apply Classical.byContradiction;intro hn
  have : w.heap[a.block]? = none := by rw [Array.getElem?_eq_none_iff]; omega
  simp [World.cell?, this] at h
theorem forb0 : forb (fun _ => False) [] [] = fun _ => False := by
  funext b
  apply propext
  constructor
  · rintro (h | ⟨i, o, h, _⟩)
    · exact h
    simp at h
  exact fun h => h.elim
section
variable {H : Type} {enc : TypeId × Value → H} {W : World}
theorem vr_limbs {fuel : Nat} {cs : List Value} {x : DataW H × List MemPlace} (h : DataW.trod enc Tryz.prog W 0 (fun _ => true) true fuel 23 cs = some x) :
    ∃ (v : Value) (xs : List Nat), cs = [v] ∧ U32 xs ∧ VR W (fun _ => False) [] [] (sln .u32 xs) v := by
  rcases open_ints Tryz.underlying23 Tryz.underlying56 (by kernel_rfl) h with ⟨rfl, _⟩ | ⟨a, len, cap, zs, rfl, _, hl, hm, hz, _, hcell, hwf⟩
  · refine ⟨_, [], rfl, fun _ h => (by cases h), ?_⟩
    simp only [VR];exact ⟨none, 0, rfl, Nat.le_refl _, Nat.zero_le _, fun h => (h rfl).elim⟩
  simp only [if_true] at hz
  have hb : ∀ n ∈ zs, 0 ≤ n ∧ n < 4294967296 := by
    intro n hn;have := hwf n hn;simp [Lit.wf, IntKind.min, IntKind.max, IntKind.signed, IntKind.bits] at this;omega
  have hu : U32 ((zs.take len).map Int.toNat) := by
    intro y hy;obtain ⟨n, hn, rfl⟩ := List.mem_map.1 hy;have := hb n (List.mem_of_mem_take hn);show n.toNat < 4294967296;omega
  have hlen : ((zs.take len).map Int.toNat).length = len := by rw [List.length_map, List.length_take]; omega
  refine ⟨_, (zs.take len).map Int.toNat, rfl, hu, ?_⟩
  have hget : ∀ j : Nat, j < len → nts .u32 ((zs.take len).map Int.toNat) = nts .u32 ((zs.take len).map Int.toNat) → ((nts .u32 ((zs.take len).map Int.toNat))[j]? = some (.int .u32 (zs.getD j 0))) := by
    intro j hj _
    have hjz : j < zs.length := by omega
    have hn := hb (zs[j]'hjz) (List.getElem_mem hjz);simp only [nts, List.map_map, List.getElem?_map, List.getElem?_take, if_pos hj, List.getElem?_eq_getElem hjz, Option.map_some, Function.comp, List.getD_eq_getElem?_getD, Option.getD_some]
    congr 2
    omega
  simp only [VR];refine ⟨some a, cap, by rw [hlen], by rw [hlen]; exact hl, hm, fun hne => ⟨a, rfl, ?_, id, Zfa fun j d hd => ?_⟩⟩
  · have h0 : 0 < zs.length := by
      rcases Nat.eq_zero_or_pos zs.length with h | h
      · have : zs = [] := List.eq_nil_of_length_eq_zero h
        subst this;simp [nts] at hne
      exact h
    exact cell_lt (hcell 0 h0)
  have hj : j < len := by
    have := (List.getElem?_eq_some_iff.1 hd).1;simp only [nts, List.length_map, List.length_take] at this;omega
  rw [hget j hj rfl] at hd
  injection hd with hd
  subst hd;exact ⟨_, by rw [Nat.zero_add]; exact hcell j (by omega), rfl, by simp only [VR]⟩
theorem vr_int {base : Nat} {v : Value} {d : DataW H} {p : List MemPlace} (hv : Value.okWide Tryz.prog W .any base 3 v) (h : DataW.Trod enc Tryz.prog W 0 (fun _ => true) true 3 v d p) :
    ∃ n : Int, -9223372036854775808 ≤ n ∧ n ≤ 9223372036854775807 ∧ VR W (fun _ => False) [] [] (.int .i64 n) v := by
  obtain ⟨n, rfl, _, _, hw⟩ := open_int Tryz.underlying3 hv h;simp [Lit.wf, IntKind.min, IntKind.max, IntKind.signed, IntKind.bits] at hw;exact ⟨n, by omega, by omega, by simp only [VR]⟩
theorem Zhq {base : Nat} {v : Value} {d : DataW H} {p : List MemPlace} (hv : Value.okWide Tryz.prog W .any base 25 v) (h : DataW.Trod enc Tryz.prog W 0 (fun _ => true) true 25 v d p) :
    ∃ e : Dt, U32 e.coef ∧ VR W (fun _ => False) [] [] (dtD e) v := by
  obtain ⟨cs, rfl, hsz⟩ := okWide_struct Tryz.underlying25 hv;obtain ⟨fuel, hf⟩ := h;obtain ⟨xs, n, _, _, hl, hlen, hall⟩ := DataW.trod_struct Tryz.underlying25 hf
  have c25 : Tryz.prog.cellsOf 25 = 5 := by kernel_rfl
  have c23 : Tryz.prog.cellsOf 23 = 1 := by kernel_rfl
  have c3 : Tryz.prog.cellsOf 3 = 1 := by kernel_rfl
  have c4 : Tryz.prog.cellsOf 4 = 1 := by kernel_rfl
  rw [c25] at hsz;obtain ⟨l⟩ := cs
  match l, hsz, xs, hlen with
  | [v0, v1, v2, v3, v4], _, [x0, x1, x2, x3, x4], _ =>
    have h0 : DataW.trod enc Tryz.prog W 0 (fun _ => true) true n 3 ((([v0, v1, v2, v3, v4] : List Value).drop 0).take (Tryz.prog.cellsOf 3)) = some x0 := hall 0 _ rfl;have h1 : DataW.trod enc Tryz.prog W 0 (fun _ => true) true n 3 ((([v0, v1, v2, v3, v4] : List Value).drop 1).take (Tryz.prog.cellsOf 3)) = some x1 := hall 1 _ rfl;have h2 : DataW.trod enc Tryz.prog W 0 (fun _ => true) true n 4 ((([v0, v1, v2, v3, v4] : List Value).drop 2).take (Tryz.prog.cellsOf 4)) = some x2 := hall 2 _ rfl;have h3 : DataW.trod enc Tryz.prog W 0 (fun _ => true) true n 23 ((([v0, v1, v2, v3, v4] : List Value).drop 3).take (Tryz.prog.cellsOf 23)) = some x3 := hall 3 _ rfl;have h4 : DataW.trod enc Tryz.prog W 0 (fun _ => true) true n 3 ((([v0, v1, v2, v3, v4] : List Value).drop 4).take (Tryz.prog.cellsOf 3)) = some x4 := hall 4 _ rfl;rw [c3] at h0 h1 h4;rw [c4] at h2;rw [c23] at h3;obtain ⟨n0, e0, _, _⟩ := DataW.trod_int (x := x0) Tryz.underlying3 h0;obtain ⟨n1, e1, _, _⟩ := DataW.trod_int (x := x1) Tryz.underlying3 h1;obtain ⟨b2, e2, _⟩ := DataW.trod_bool (x := x2) Tryz.underlying4 h2;obtain ⟨w3, es, e3, hu, hx⟩ := vr_limbs (x := x3) h3;obtain ⟨n4, e4, _, _⟩ := DataW.trod_int (x := x4) Tryz.underlying3 h4;simp at e0 e1 e2 e3 e4;subst e0; subst e1; subst e2; subst e3; subst e4;refine ⟨⟨n0, n1, b2, es, n4⟩, hu, ?_⟩;simp only [VR, VRs];refine ⟨_, rfl, _, _, rfl, rfl, _, _, rfl, rfl, _, _, rfl, rfl, v3, _, rfl, ?_, _, _, rfl, rfl, rfl⟩
    simpa only [VR] using hx
theorem ZgA {W' : World} (hb : Below W.heap.size W W') {sp : Nat → Bool} : ∀ {ts : List TypeId} {vs : List Value} {ds : List (DataW H)} {p : List MemPlace}, (∀ t ∈ ts, Tryz.prog.readableRec t = true ∧ t < Tryz.prog.types.size) →
    DataW.TrodAll enc Tryz.prog W 0 (fun _ => true) true ts vs ds p → (∀ x ∈ p, x.block < W.heap.size ∧ sp x.block = true) → DataW.TrodAll enc Tryz.prog W' 0 sp true ts vs ds p
  | [], _, _, _, _, h, _ => by
    obtain ⟨rfl, rfl, rfl⟩ := trodAll_nil h;simp [DataW.TrodAll]
  | t :: ts, _, _, _, ht, h, hp => by
    obtain ⟨v, vs, d, ds, a, b, rfl, rfl, rfl, h1, h2⟩ := trodAll_cons h;obtain ⟨r1, r2⟩ := ht t (List.mem_cons_self ..)
    exact ⟨a, b, WideElems.Trod_stays ZeX r1 r2 h1 (fun x hx => hb.same (hp x (List.mem_append_left _ hx)).1) (fun x hx => (hp x (List.mem_append_left _ hx)).2),
      ZgA hb (fun t ht' => ht t (List.mem_cons_of_mem _ ht')) h2 (fun x hx => hp x (List.mem_append_right _ hx)), rfl⟩
theorem Zf4 {fn : Func} {s : ChangeSpec} {W' : World} {args : Array Value} {ds : List (DataW H)} {before : List MemPlace} (hs : s.vars = []) (hW : DataW.Whole enc Tryz.prog fn.params.toList s.vars false W args.toList ds [] before) (hf : s.fn H ds = { results := [.lit (.bool true)], args := ds })
    (hr : fn.resultTypes = #[4]) (hts : ∀ t ∈ fn.params.toList, Tryz.prog.readableRec t = true ∧ t < Tryz.prog.types.size) (hb : Below W.heap.size W W') : s.post enc Tryz.prog fn false true false false W args (.bool true) W' := by
  have hW' := hW;obtain ⟨p, q, hA, hV, rfl, _, _⟩ := hW;rw [hs] at hV;obtain ⟨_, rfl⟩ := trodVars_none hV
  have hlt : ∀ x ∈ p, x.block < W.heap.size := fun x hx => by simpa using hW'.lt x (List.mem_append_left _ hx)
  refine ⟨ds, [], p ++ [], [], p, [], hW', ?_, ?_, ?_, hb.frame _, fun h => by cases h⟩
  · rw [List.append_nil, hf, hr]
    exact trodAll_mk1 (shut_bool Tryz.underlying4 _)
  · rw [List.append_nil, hf]
    exact ZgA hb hts hA fun x hx => ⟨hlt x hx, by simpa using hlt x hx⟩
  rw [List.append_nil, hf, hs];rfl
end
theorem table_GR {W : World} {n : String} {g : Nat} {cs : Array Value} {ds : List D} (hg : Tryz.prog.globalNamed n = some g) (hv : W.var? Tryz.prog n = some cs) (hne : ds ≠ []) (hd : Zii ds = some cs.toList) :
    g < W.heap.size ∧ GR W (fun _ => False) g ds := by
  have hcell : ∀ (j : Nat) (v : Value), cs.toList[j]? = some v → W.cell? ⟨g, 0 + j, none⟩ = some v := fun j v hj => by
    rw [Nat.zero_add, World.var?_cell hg hv j]
    simpa using hj
  have hlen : ∀ {ds : List D} {vs : List Value}, Zii ds = some vs → vs.length = ds.length := by
    intro ds
    induction ds with
    | nil => intro vs h; simp only [Zii] at h; injection h with h; subst h; rfl
    | cons d ds ih =>
      intro vs h;simp only [Zii] at h
      split at h
      · rename_i h1 h2
        injection h with h; subst h
        rw [List.length_cons, List.length_cons, ih h2]
      cases h
  have hb : ∃ e fz, W.heap[g]? = some (.cells cs e fz) := by
    unfold World.var? at hv;rw [hg, Option.bind_some] at hv
    split at hv
    · rename_i h; injection hv with hv; subst hv; exact ⟨_, _, h⟩
    cases hv
  obtain ⟨e, fz, hb⟩ := hb;refine ⟨?_, VRL_vals hd hcell, cs, e, fz, hb, ?_⟩
  · apply Classical.byContradiction
    intro hn
    have : W.heap[g]? = none := by rw [Array.getElem?_eq_none_iff]; omega
    rw [this] at hb; cases hb
  have := hlen hd; simpa using this
theorem ZdA {W : World} (h : laidMetH Tryz.prog Rows.deciSumsRow.laid W) : 0 < W.heap.size ∧ GR W (fun _ => False) 0 ZgP := by
  rw [MakeChecks.laidMetH_plain _ _ _ (by kernel_rfl)] at h;obtain ⟨ps, ⟨g1, t1, cs1, f1, p1, q1, hg1, ht1, hv1, hd1, _, _⟩, _, _⟩ := h
  have gT : Tryz.prog.globalNamed "soroban/decimal.formats" = some 0 := by kernel_rfl
  have tT : (Tryz.prog.globals[0]?).map (·.type) = some 276 := by kernel_rfl
  obtain rfl := Option.some.inj (gT.symm.trans hg1);obtain rfl := Option.some.inj (tT.symm.trans ht1);have hf := flat_ok 4 f1 276 cs1.toList _ (by kernel_rfl) hd1
  have hV : Zii ZgP = flatV (Rows.laid_soroban_decimal_formats (H := Unit)) := by rfl
  exact table_GR gT hv1 (by intro h; cases h) (hV.trans hf)
theorem SRg {W : World} (h : 0 < W.heap.size ∧ GR W (fun _ => False) 0 ZgP) : SR Cd (fun _ => False) W [] [] :=
  ⟨rfl, fun i o b h => by simp at h, fun i j oi oj b h => by simp at h, fun i o b h => by simp at h, fun b h => h.elim, fun g cs hg => by
    have hg : (g, cs) ∈ [(0, ZgP)] := hg;rw [List.mem_singleton] at hg;obtain ⟨rfl, rfl⟩ := Prod.mk.inj hg;rw [forb0]
    exact ⟨h.1, fun h => h, h.2⟩⟩
theorem Zeg {f : FuncId} {ds : List D} {W : World} {vs : List Value} (hl : 0 < W.heap.size ∧ GR W (fun _ => False) 0 ZgP) (hc : PC Cd f ds (fun o => o = .ret (.bool true))) (hv : VRs W (fun _ => False) [] [] ds vs) : Calls Tryz.prog f vs.toArray W fun e W' => e = .returned (.bool true) ∧ Below W.heap.size W W' := by
  have h := (hc []).2 (fun _ => False) W [] vs (SRg hl) (by rw [forb0]; exact hv);refine h.mono ?_;rintro e W' ⟨o, H', μ', ⟨rfl, rfl⟩, _, ⟨v, he, hv'⟩, hevo⟩;simp only [VR] at hv';subst hv';exact ⟨he, hevo.os, hevo.tape, hevo.output, hevo.size, fun k hk => hevo.chg k hk fun ⟨i, o, h, _⟩ => by simp at h⟩
open Go.Proofs
theorem Za7 {a b : Bool} (h1 : a = true) (h2 : b = true) : (a && b) = true := by rw [h1, h2]; rfl
theorem ZeY {P : Program} {f : FuncId} {fn : Func} {s : ChangeSpec} {c : OpenClaim}
    (k1 : (c.wf (OpenSpec.ofChange s)) = true)
    (k2 : (laidOutB P) = true)
    (k3 : (mapsRowed P) = true)
    (k4 : (fn.params.all (P.readableRec ·)) = true)
    (k5 : (namedTie P c.named s.vars) = true)
    (k6 : (c.stops == []) = true)
    (k7 : (P.stops == []) = true)
    (k8 : (c.knobs == []) = true)
    (k9 : (P.stopKnobs == []) = true)
    (k10 : (c.inPlace == P.inPlace f) = true)
    (k11 : (c.unfollowed == P.unfollowed f) = true)
    (k12 : (c.recurses == P.recurses f) = true)
    (k13 : (c.named == P.varsNamed f) = true)
    (k14 : ((c.maps == (fn.params.toList ++ s.plain.varTypes P).any (P.mapsRec ·))) = true)
    (k15 : ((c.ifaces == (fn.params.toList ++ s.plain.varTypes P).any (P.ifacesRec ·))) = true)
    (k16 : (c.mapsOut == P.mapsAmong fn.resultTypes.toList) = true)
    (k17 : ((c.loops == (fn.params.toList ++ s.plain.varTypes P).any (P.loopsFrom ·))) = true)
    (k18 : ((c.wideKeys == (fn.params.toList ++ s.plain.varTypes P ++ fn.resultTypes.toList).any (P.wideKeysFrom ·))) = true)
    (k19 : (s.vars.all (P.varReadable ·)) = true)
    (k20 : (fn.resultTypes.all (fun t => P.readableRec t && decide (t < P.types.size))) = true)
    (k21 : ((c.ifacesOut == fn.resultTypes.toList.any (P.ifacesRec ·))) = true)
    (k22 : ((c.loopsOut == fn.resultTypes.toList.any (P.loopsFrom ·))) = true)
    (k23 : (c.plainKeys == P.plainKeys) = true)
    (k24 : (c.shortTexts.isNone) = true)
    (k25 : (P.stopsHeard) = true)
    (k26 : (P.mayEnter) = true)
    (k27 : (c.lifted == P.liftsFinal) = true)
    (k28 : (P.make == some c.make) = true)
    (k29 : ((c.kinds == (if c.domain.isEmpty then [] else fn.params.toList.map fun t => match P.underlying t with | some (.int k) => some k | _ => none))) = true)
    (k30 : (c.pinned == c.pinnedBy) = true)
    (k31 : ((c.veiled == (fn.params.toList ++ s.plain.varTypes P ++ fn.resultTypes.toList).any (P.veiledRec ·))) = true)
    (k32 : (c.veiledFits P fn.params.toList (fn.params.toList ++ s.plain.varTypes P ++ fn.resultTypes.toList)) = true)
    : joinedFacts P f fn s c = true := by
  unfold joinedFacts;exact Za7 (Za7 (Za7 (Za7 (Za7 (Za7 (Za7 (Za7 (Za7 (Za7 (Za7 (Za7 (Za7 (Za7 (Za7 (Za7 (Za7 (Za7 (Za7 (Za7 (Za7 (Za7 (Za7 (Za7 (Za7 (Za7 (Za7 (Za7 (Za7 (Za7 (Za7 k1 k2) k3) k4) k5) k6) k7) k8) k9) k10) k11) k12) k13) k14) k15) k16) k17) k18) k19) k20) k21) k22) k23) k24) k25) k26) k27) k28) k29) k30) k31) k32
theorem ZjG : mapsRowed Tryz.prog = true := by kernel_rfl
theorem ZdB : (Go.Proofs.YtaglofmanchabaaGreatDoor.Rows.deciSumsRow.plainKeys == Tryz.prog.plainKeys) = true := by kernel_rfl
theorem Zc5 : Tryz.prog.stopsHeard = true := by kernel_rfl
theorem Zhr : (Go.Proofs.YtaglofmanchabaaGreatDoor.Rows.deciSumsRow.lifted == Tryz.prog.liftsFinal) = true := by kernel_rfl
theorem ZjH : (Tryz.prog.make == some Go.Proofs.YtaglofmanchabaaGreatDoor.Rows.deciSumsRow.make) = true := by kernel_rfl
theorem ZjI : YtaglofmanchabaaGreatDoor.Tryz.pinned.checked.prog.mainIs = some (true, "58c42f9d67fc7e9e7262abd59a18499bba7912e1bd170f361a558a6280eacf8e".toList) := by kernel_rfl
theorem Zhs : true = Tryz.prog.looks [] := by kernel_rfl
theorem Zht : Tryz.prog.mayEnter = true := by kernel_rfl
end Go.V
