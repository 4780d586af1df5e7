/- A part of the proof: abstract values, rules for the steps of the program's form, and contracts of its functions, each proved; no condition. -/
import Derived.Test.YtjohcjagbodicabGreatDoorA14
import Derived.ProofKit
import Derived.OpenShut
import Derived.LaidMore
import Derived.Test.YtjohcjagbodicabGreatDoorTie
import Derived.Test.YtjohcjagbodicabGreatDoorCards
import Derived.Lay
import Derived.SevenTiedAt
import Derived.Carry
import Derived.Stop.Joined
set_option linter.unusedVariables false
set_option linter.unusedSimpArgs false
/- TABLES THAT LIE: a variable's cells, out of what it is said to hold. -/
namespace Go.V
open Go.RowKit Go.ChangeShapes Go.WideShapes
def litV : Lit → Option Value
  | .int k n => some (.int k n)
  | .bool b => some (.bool b)
  | .string l => some (.string ⟨l.toArray⟩)
  | _ => none
mutual
def flatV {H : Type} : DataW H → Option (List Value)
  | .lit l => match litV l with
    | some v => some [v]
    | none => none
  | .agg ds => flatVs ds
  | _ => none
def flatVs {H : Type} : List (DataW H) → Option (List Value)
  | [] => some []
  | d :: ds => match flatV d, flatVs ds with
    | some a, some b => some (a ++ b)
    | _, _ => none
end
def contig (P : Program) : List Field → Nat → Nat → Bool
  | [], off, tot => off == tot
  | f :: fs, off, tot => f.offset == off && contig P fs (off + P.cellsOf f.type) tot
def flatT (P : Program) : Nat → TypeId → Bool
  | 0, _ => false
  | m + 1, t => match P.underlying t with
    | some .bool => true
    | some (.int _) => true
    | some .string => true
    | some (.array n e) => flatT P m e && P.cellsOf t == n * P.cellsOf e
    | some (.struct fs) => fs.toList.all (fun f => flatT P m f.type) && contig P fs.toList 0 (P.cellsOf t)
    | _ => false
section
variable {H : Type} {enc : TypeId × Value → H} {P : Program} {w : World} {base : Nat} {sp : Nat → Bool} {held : Bool}
theorem flat_struct {fuel m : Nat} (IH : ∀ (t : TypeId) (cs : List Value) (x : DataW H × List MemPlace), flatT P m t = true → DataW.trod enc P w base sp held fuel t cs = some x → flatV x.1 = some cs) (cs : List Value) : ∀ (fs : List Field) (off : Nat) (xs : List (DataW H × List MemPlace)),
    fs.all (fun f => flatT P m f.type) = true → contig P fs off cs.length = true → fs.mapM (fun f => DataW.trod enc P w base sp held fuel f.type ((cs.drop f.offset).take (P.cellsOf f.type))) = some xs → flatVs (xs.map (·.1)) = some (cs.drop off)
  | [], off, xs, _, hc, hx => by
    simp only [contig, beq_iff_eq] at hc
    simp at hx
    subst hx
    subst hc
    simp [flatVs]
  | f :: fs, off, xs, ha, hc, hx => by
    simp only [contig, Bool.and_eq_true, beq_iff_eq] at hc
    obtain ⟨rfl, hc⟩ := hc
    rw [List.all_cons, Bool.and_eq_true] at ha
    rw [List.mapM_cons] at hx
    simp only [bind, Option.bind_eq_some_iff, pure, Option.some.injEq] at hx
    obtain ⟨x, hx1, xs', hx2, rfl⟩ := hx
    have h1 := IH _ _ _ ha.1 hx1
    have h2 := flat_struct IH cs fs _ xs' ha.2 hc hx2
    simp only [List.map_cons, flatVs, h1, h2]
    rw [← List.drop_drop, List.take_append_drop]
theorem flat_array {fuel m : Nat} {e : TypeId} (IH : ∀ (t : TypeId) (cs : List Value) (x : DataW H × List MemPlace), flatT P m t = true → DataW.trod enc P w base sp held fuel t cs = some x → flatV x.1 = some cs) (he : flatT P m e = true) (cs : List Value) : ∀ (n i : Nat) (xs : List (DataW H × List MemPlace)),
    cs.length = (i + n) * P.cellsOf e → (List.range' i n).mapM (fun i => DataW.trod enc P w base sp held fuel e ((cs.drop (i * P.cellsOf e)).take (P.cellsOf e))) = some xs → flatVs (xs.map (·.1)) = some (cs.drop (i * P.cellsOf e))
  | 0, i, xs, hc, hx => by
    simp at hx
    subst hx
    have : cs.drop (i * P.cellsOf e) = [] := List.drop_eq_nil_of_le (by rw [hc]; exact Nat.le_refl _)
    rw [this]
    simp [flatVs]
  | n + 1, i, xs, hc, hx => by
    rw [List.range'_succ, List.mapM_cons] at hx
    simp only [bind, Option.bind_eq_some_iff, pure, Option.some.injEq] at hx
    obtain ⟨x, hx1, xs', hx2, rfl⟩ := hx
    have h1 := IH _ _ _ he hx1
    have h2 := flat_array IH he cs n (i + 1) xs' (by rw [hc]; congr 1; omega) hx2
    simp only [List.map_cons, flatVs, h1, h2]
    rw [Nat.add_mul, Nat.one_mul, ← List.drop_drop, List.take_append_drop]
theorem flat_ok : ∀ (m fuel : Nat) (t : TypeId) (cs : List Value) (x : DataW H × List MemPlace), flatT P m t = true → DataW.trod enc P w base sp held fuel t cs = some x → flatV x.1 = some cs
  | 0, _, _, _, _, h, _ => by cases h
  | m + 1, 0, _, _, _, _, h => by simp [DataW.trod] at h
  | m + 1, fuel + 1, t, cs, x, hf, h => by
    unfold flatT at hf
    split at hf
    · rename_i hu
      obtain ⟨b, rfl, rfl⟩ := DataW.trod_bool hu h
      rfl
    · rename_i k hu
      obtain ⟨n, rfl, rfl, _⟩ := DataW.trod_int hu h
      rfl
    · rename_i hu
      obtain ⟨s, rfl, rfl, _⟩ := DataW.trod_string hu h
      obtain ⟨⟨l⟩⟩ := s
      rfl
    · rename_i n e hu
      rw [Bool.and_eq_true, beq_iff_eq] at hf
      unfold DataW.trod at h
      simp only [hu] at h
      split at h
      · rename_i hl
        simp only [Option.map_eq_some_iff] at h
        obtain ⟨xs, hx, rfl⟩ := h
        have := flat_array (fun t cs x => flat_ok m fuel t cs x) hf.1 cs n 0 xs (by rw [hl, hf.2, Nat.zero_add]) (by rw [← List.range_eq_range']; exact hx)
        simpa [flatV] using this
      cases h
    · rename_i fs hu
      rw [Bool.and_eq_true] at hf
      unfold DataW.trod at h
      simp only [hu] at h
      split at h
      · rename_i hl
        simp only [Option.map_eq_some_iff] at h
        obtain ⟨xs, hx, rfl⟩ := h
        have := flat_struct (fun t cs x => flat_ok m fuel t cs x) cs fs.toList 0 xs hf.1 (by rw [hl]; exact hf.2) hx
        simpa [flatV] using this
      cases h
    cases hf
end
theorem VRL_vals {w : World} {L : Nat → Prop} {g : Nat} : ∀ {ds : List D} {vs : List Value} {k : Nat}, valsD ds = some vs → (∀ (j : Nat) (v : Value), vs[j]? = some v → w.cell? ⟨g, k + j, none⟩ = some v) → VRL w L ⟨g, 0, none⟩ k ds := by
  intro ds
  induction ds with
  | nil => intro vs k _ _; simp only [VRL]
  | cons d ds ih =>
    intro vs k hv h
    simp only [valsD] at hv
    split at hv
    · rename_i v vs' h1 h2
      injection hv with hv; subst hv
      simp only [VRL]
      refine ⟨⟨v, ?_, ?_, ?_⟩, ih h2 (fun j u hj => ?_)⟩
      · have := h 0 v rfl
        by_cases hk : k = 0
        · subst hk; simpa [Addr.add] using this
        simpa [Addr.add, hk] using this
      · cases d <;> simp only [valD] at h1 <;> first | (injection h1 with h1; subst h1; rfl) | cases h1
      · cases d <;> simp only [valD] at h1 <;> first | (injection h1 with h1; subst h1; simp only [VR]) | cases h1
      rw [show k + 1 + j = k + (j + 1) by omega]
      exact h (j + 1) u (by simpa using hj)
    cases hv
end Go.V
/- CONDITIONS OF SEVERAL PARTS: what stands under a guard, told without parting the rest. -/
namespace Go.V
open Go.RowKit
class PS (env : List D) (b : Nat) (l : List (Nat × D)) (env' : outParam (List D)) : Prop where
  len : env.length = env'.length
instance PS.nil {env : List D} {b : Nat} : PS env b [] env := ⟨rfl⟩
instance (priority := low) PS.miss {env env' : List D} {b : Nat} {l : List (Nat × D)} {x : D} [h : PS env (b + 1) l env'] : PS (x :: env) b l (x :: env') := ⟨by simp [h.len]⟩
instance PS.hit {env env' : List D} {b : Nat} {l : List (Nat × D)} {x d : D} [h : PS env (b + 1) l env'] : PS (x :: env) b ((b, d) :: l) (d :: env') := ⟨by simp [h.len]⟩
instance (priority := high) Puts.sorted {env env' : List D} {l : List (Nat × D)} [h : PS env 0 l env'] : Puts env l env' := ⟨h.len⟩
section
variable {C : Ctx} {Q : Post} {ops : Array Oper} {rest rest2 : List Oper} {k : List Item} {v v' e1 e2 : List D} {H : Heap} {df : List ADef} {b c : Bool}
theorem AOps.env (hl : envLe v v') (h : AOps C Q ops rest k v' H df) : AOps C Q ops rest k v H df := ⟨fun i hi => ARun.env hl (h.out i hi)⟩
end
end Go.V
set_option maxHeartbeats 8000000
set_option maxRecDepth 100000
set_option synthInstance.maxSize 100000
set_option synthInstance.maxHeartbeats 2000000
namespace Go.V
open Go.RowKit Go.Proofs
theorem Zlr (s : ByteArray) (hs : s.size ≤ 20000) : PC C Zij [.str s] (fun o => o = .ret (.str (bytesOf (plainL (sby s))))) := by
  have hlen := sby_len s
  refine PC.rn ZdA Zhk Zhl (rs := [.tmp 2]) (by rw [Zhm]) ?_
  refine ARun.seq (ARun.region ?_); refine zza ?_; refine AOps.nil (ARun.seq (ARun.region ?_)); refine zza ?_; refine AOps.nil (ARun.seq (ARun.seq (ARun.region ?_))); refine zza ?_; refine AOps.nil (ARun.block ?_)
  refine ARun.loopI (S := Nat) (fun i : Nat => [(5, .any), (6, .any), (7, .any), (8, .any), (9, .any), (10, .any), (11, .any), (12, .any), (13, .any), (14, .any), (15, .any), (16, .any), (17, .any), (18, .any), (19, .any), (20, .any), (21, .any), (3, .str (bytesOf (plainL ((sby s).take i)))), (4, .int .i64 (i : Int))]) (fun i : Nat => []) (fun i : Nat => i ≤ s.size) (fun i : Nat => s.size - i) (0) ?_ ?_ ?_ ?_
  · exact Nat.zero_le _
  · (repeat' first | exact envLe_nil | apply envLe_any | apply envLe_same)
  · rfl
  rintro i hinv ih
  refine ARun.seq (ARun.seq (ARun.region ?_)); refine zzm ?_; refine zzm ?_
  refine y_op rfl (Zb0 rfl rfl) ?_
  refine zzi ?_; refine AOps.nil ?_
  refine ARun.ite rfl (fun g => ?_) (fun g => ?_)
  · skip
    have g : i < s.size := by omega
    have htk : (sby s).take (i + 1) = (sby s).take i ++ [(sby s).getD i 0] := take_getD (by omega)
    have hle := List.length_filter_le (fun c => decide (c ≠ 39)) ((sby s).take i)
    rw [List.length_take] at hle
    refine ARun.skip (ARun.seq (ARun.block (ARun.seq (ARun.region ?_)))); refine zzm ?_; refine zzm ?_
    refine y_op rfl (ZaW rfl rfl rfl (by omega) (by omega) (sby_get _)) ?_
    refine zzi ?_; refine AOps.nil ?_
    refine ARun.cond rfl (fun q => ?_) (fun q => ?_)
    · skip
      have q : (sby s).getD i 0 ≠ 39 := by
        intro h; rw [h] at q; exact absurd q (by decide)
      have hp : plainL ((sby s).take (i + 1)) = plainL ((sby s).take i) ++ [(sby s).getD i 0] := by
        unfold plainL; rw [htk, List.filter_append, List.filter_cons_of_pos (by simpa using q)]; rfl
      have hx : s.extract i (i + 1) = bytesOf [(sby s).getD i 0] := by
        apply ByteArray.ext
        apply Array.ext'
        have h1 := sby_cut (s := s) (i := i) (n := 1) (by omega)
        rw [drop_at g] at h1
        have h2 : (s.extract i (i + 1)).data.toList.map (fun c : UInt8 => c.toNat) = [(sby s).getD i 0] := h1
        have h3 : (s.extract i (i + 1)).data.toList = ((s.extract i (i + 1)).data.toList.map (fun c : UInt8 => c.toNat)).map UInt8.ofNat := by
          rw [List.map_map]
          conv => lhs; rw [← List.map_id (s.extract i (i + 1)).data.toList]
          apply List.map_congr_left
          intro c _
          show c = UInt8.ofNat c.toNat
          rw [UInt8.ofNat_toNat]
        rw [h3, h2]; rfl
      refine ARun.region ?_; refine zzm ?_; refine zzm ?_; refine zzm ?_; refine zzm ?_
      refine y_op rfl (q_add rfl rfl (nadd1_i64 (by omega))) ?_
      refine y_op rfl (OpQ.cast (Zh2 (lo := i) (hi := i + 1) rfl rfl (bnd_nat rfl rfl) (bnd_nat rfl rfl) (by omega) (by omega)) (congrArg D.str hx)) ?_
      refine y_op rfl (OpQ.cast (Zdm rfl rfl (by rw [bytesOf_size, bytesOf_size]; unfold plainL; show _ + 1 ≤ _; omega)) (congrArg D.str (show bytesOf _ ++ bytesOf _ = bytesOf (plainL ((sby s).take (i + 1))) by rw [hp, bytesOf_append]))) ?_
      refine zza ?_; refine AOps.nil (ARun.inBlock (ARun.region ?_)); refine zzm ?_
      refine y_op rfl (q_add rfl rfl (nadd1_i64 (by omega))) ?_
      refine zza ?_; refine AOps.nil ?_
      refine ARun.again (ih (i + 1) ?_ ?_) ?_ ?_
      · exact g
      · omega
      · (repeat' first | exact envLe_nil | apply envLe_any | apply envLe_same)
      rfl
    have q : (sby s).getD i 0 = 39 := by
      apply Classical.byContradiction
      intro h
      have : ((((sby s).getD i 0 : Nat) : Int) != 39) = true := by rw [bne_iff_ne]; omega
      rw [this] at q; cases q
    have hp : plainL ((sby s).take (i + 1)) = plainL ((sby s).take i) := by
      unfold plainL; rw [htk, q, List.filter_append]; exact List.append_nil _
    rw [← hp]
    refine ARun.skip (ARun.inBlock (ARun.region ?_)); refine zzm ?_
    refine y_op rfl (q_add rfl rfl (nadd1_i64 (by omega))) ?_
    refine zza ?_; refine AOps.nil ?_
    refine ARun.again (ih (i + 1) ?_ ?_) ?_ ?_
    · exact g
    · omega
    · (repeat' first | exact envLe_nil | apply envLe_any | apply envLe_same)
    rfl
  have g : i = s.size := by omega
  rw [g, ← hlen, List.take_length]
  refine ARun.exit rfl ?_
  refine ARun.seq (ARun.region ?_); refine zzm ?_; refine zza ?_; refine AOps.nil ?_
  refine ARun.ret ?_
  refine ⟨_, _, _, .tmp rfl .nil, .cons (.same _) .nil, rfl, ?_⟩
  rfl
theorem intN (a : Nat) : D.agg [.bool false, numD a] = intD (a : Int) := by
  show _ = D.agg [.bool (decide ((a : Int) < 0)), numD (a : Int).natAbs]
  rw [decide_eq_false (show ¬ (a : Int) < 0 by omega), Int.natAbs_natCast]
def bw (y : Nat) : Nat := if y = 0 then 32 else 64
theorem bits_at : ∀ y : Nat, y ≤ 2 → (([.int .i64 32, .int .i64 64, .int .i64 64] : List D).drop y)[0]? = some (.int .i64 ((bw y : Nat) : Int))
  | 0, _ | 1, _ | 2, _ => rfl
  | y + 3, h => by omega
theorem wrap_id {a k : Nat} (hk : k < 6) (h : bl a ≤ tyB k) : wrapZ (bw (k / 2)) (!decide (k % 2 = 1)) (a : Int) = (a : Int) := by
  have hb : a < 2 ^ tyB k := bl_le.1 h
  have hB : bw (k / 2) = tyB k + (1 - k % 2) := by
    rcases (show k = 0 ∨ k = 1 ∨ k = 2 ∨ k = 3 ∨ k = 4 ∨ k = 5 by omega) with rfl | rfl | rfl | rfl | rfl | rfl <;> rfl
  have hlt : a < 2 ^ bw (k / 2) := Nat.lt_of_lt_of_le hb (Nat.pow_le_pow_right (by decide) (by omega))
  have hm : (a : Int) % P2 (bw (k / 2)) = (a : Int) := Int.emod_eq_of_lt (by omega) (by unfold P2; exact Int.ofNat_lt.2 hlt)
  unfold wrapZ
  rw [hm]
  by_cases ho : k % 2 = 1
  · rw [decide_eq_true ho]; rfl
  rw [decide_eq_false ho]
  have : decide (P2 (bw (k / 2) - 1) ≤ (a : Int)) = false := decide_eq_false (by
    rw [hB, show tyB k + (1 - k % 2) - 1 = tyB k by omega]
    unfold P2
    intro h2
    have := Int.ofNat_le.1 h2
    omega)
  rw [this]; rfl
theorem Zls (s : ByteArray) (e : Ca) (hu : U32 e.1) (d : Bool × List Nat) (hd : U32 d.2) : PC Cg ZbY [.str s, caD e, intA d.1 d.2] (fun o => o = .ret (.bool true)) := by
  have hPw := ZkC e hu
  have hTw := Zlq e hu
  obtain ⟨xs, base, u, k⟩ := e
  show PC Cg ZbY [.str s, .agg [sln .u32 xs, .int .i64 base, .bool u, .int .i64 k], intA d.1 d.2] (fun o => o = .ret (.bool true))
  replace hu : U32 xs := hu
  refine PC.rn ZbL ZdO ZdP (rs := [.tmp 6]) (by rw [ZdQ]) ?_
  refine ARun.seq (ARun.region ?_); refine zzb ?_; refine zzb ?_; refine zza ?_; refine AOps.nil (ARun.seq (ARun.region ?_))
  refine zzc rfl rfl (PC.gl Zlm) ?_
  refine zza ?_; refine AOps.nil (ARun.seq (ARun.seq (ARun.region ?_))); refine zzm ?_
  refine y_op rfl (Zb0 rfl rfl) ?_
  refine zzi ?_; refine zzm ?_
  refine AOps.bool 33 rfl (fun g1 => ?_) (fun g1 => ?_)
  · skip
    refine zzk ?_; refine zzk ?_; refine zzk ?_; refine zzk ?_; refine zzp ?_; refine zzm ?_; refine zzk ?_; refine zzk ?_; refine zzk ?_; refine zzk ?_; refine zzp ?_; refine AOps.nil ?_
    refine ARun.condT rfl ?_
    refine ARun.seq (ARun.region ?_); refine zzm ?_; refine zza ?_; refine AOps.nil ?_
    refine ARun.ret ?_
    refine ⟨_, _, _, .tmp rfl .nil, .cons (.same _) .nil, rfl, ?_⟩
    rfl
  have g1 : ¬ (s.size : Int) > 2000 := of_decide_eq_false g1
  have hs : s.size ≤ 20000 := by omega
  refine zzf ?_; refine zzl ?_; refine zzN ?_; refine zzi ?_; refine zzp ?_; refine zzm ?_
  refine AOps.bool 39 rfl (fun g2 => ?_) (fun g2 => ?_)
  · skip
    refine zzk ?_; refine zzk ?_; refine zzk ?_; refine zzk ?_; refine zzp ?_; refine AOps.nil ?_
    refine ARun.condT rfl ?_
    refine ARun.seq (ARun.region ?_); refine zzm ?_; refine zza ?_; refine AOps.nil ?_
    refine ARun.ret ?_
    refine ⟨_, _, _, .tmp rfl .nil, .cons (.same _) .nil, rfl, ?_⟩
    rfl
  have g2 : ¬ ((xs.length : Nat) : Int) > 60 := of_decide_eq_false g2
  refine zzL ?_
  refine y_op rfl (Zan rfl rfl rfl rfl rfl rfl rfl rfl rfl rfl rfl (by decide) (by decide) rfl) ?_
  refine zzc rfl rfl (PC.gl (Zl4 [d] 1 rfl 60)) ?_
  refine zzn ?_; refine zzp ?_; refine AOps.nil ?_
  refine ARun.cond rfl (fun g3 => ?_) (fun g3 => ?_)
  · skip
    refine ARun.seq (ARun.region ?_); refine zzm ?_; refine zza ?_; refine AOps.nil ?_
    refine ARun.ret ?_
    refine ⟨_, _, _, .tmp rfl .nil, .cons (.same _) .nil, rfl, ?_⟩
    rfl
  have g3 := not_false_true g3
  simp only [List.all_cons, List.all_nil, Bool.and_true, Bool.and_eq_true, decide_eq_true_eq] at g3
  obtain ⟨k1, k2⟩ := g3
  obtain ⟨z, rfl, hz⟩ := fine_int hd k1 k2
  refine ARun.skip (ARun.seq (ARun.region ?_)); refine zzL ?_
  refine zzc rfl rfl (PC.gl hPw) ?_
  refine zzm ?_; refine zze ?_; refine zze ?_; refine zza ?_; refine zza ?_; refine AOps.nil (ARun.seq (ARun.seq (ARun.region ?_))); refine zzm ?_; refine zzi ?_; refine AOps.nil ?_
  refine ARun.join (S := Unit) (fun jv : Unit => [(6, .any), (8, .any), (9, .any), (10, .any), (11, .any), (12, .any), (13, .any), (14, .any), (15, .any), (16, .any), (17, .any), (46, .any), (48, .any), (49, .any), (50, .any), (51, .any), (52, .any), (53, .any), (54, .any), (55, .any), (56, .any), (57, .any), (58, .any), (59, .any), (60, .any), (61, .any), (62, .any), (63, .any), (64, .any), (65, .any), (66, .any), (67, .any), (68, .any), (69, .any), (70, .any), (71, .any), (72, .any), (73, .any), (74, .any), (75, .any), (76, .any), (77, .any), (78, .any), (79, .any), (80, .any), (81, .any), (82, .any), (83, .any), (84, .any), (85, .any), (86, .any), (87, .any), (88, .any), (89, .any), (90, .any), (91, .any), (92, .any), (93, .any), (94, .any), (95, .any), (96, .any), (97, .any), (98, .any), (99, .any), (100, .any), (101, .any), (102, .any), (103, .any), (104, .any), (105, .any), (106, .any), (107, .any), (108, .any), (109, .any), (110, .any), (111, .any), (112, .any), (113, .any), (114, .any), (115, .any)]) (fun jv : Unit => True) (fun run => ?_) ?_
  · skip
    rcases ho : okC (xs, base, u, k) with _ | _
    · skip
      have hR : printR (xs, base, u, k) = ([], 1) := by unfold printR; rw [ho]; rfl
      rw [hR]
      refine ARun.condF rfl ?_
      refine ARun.skip ?_
      exact ARun.ag (run (()) (trivial))
    obtain ⟨a, b, n, rfl, rfl, rfl, ha, hn, hb⟩ := okC_val hu ho
    have ha60 : (lim a).length ≤ 60 := by omega
    have hR : printR (lim a, (b : Int), u, (n : Int)) = (printL a b u n, 0) := by
      unfold printR; rw [ho, cond_true]; dsimp only; rw [val_lim, Int.toNat_natCast, Int.toNat_natCast]
    rw [hR]
    rw [typeR_ok ho] at hTw
    have hPC : PC C Zb6 [.str (bytesOf (printL a b u n))] (fun o => o = cOut ((a, b, u, n), 0, 0)) := (Zcq _).mono fun o h => by rw [h, parse_print ha60 hn hb]
    rcases hff : ff (fitsP a b u n) 0 with _ | kk
    · skip
      rw [hff] at hTw
      refine ARun.condT rfl ?_
      refine ARun.seq (ARun.region ?_); refine zzm ?_
      refine zzc rfl rfl (PC.gl hPC) ?_
      refine zzm ?_; refine zze ?_; refine zze ?_; refine zze ?_
      refine ZaX rfl rfl rfl rfl rfl rfl rfl rfl rfl rfl rfl ?_
      refine zza ?_; refine zza ?_; refine AOps.nil (ARun.seq (ARun.seq (ARun.region ?_))); refine zzm ?_
      refine y_op rfl (Zdo rfl rfl rfl) ?_
      refine zzm ?_; refine zzm ?_
      refine y_op rfl (Zdo rfl rfl rfl) ?_
      refine zzp ?_; refine zzm ?_; refine zzL ?_; refine zzL ?_
      refine zzc rfl rfl (PC.gl (Ze2 (a, b, u, n) ha)) ?_
      refine zzn ?_; refine zzp ?_; refine AOps.nil ?_
      refine ARun.condF rfl ?_
      refine ARun.skip (ARun.seq (ARun.region ?_)); refine zzL ?_
      refine zzc rfl rfl (hTw) ?_
      refine zzm ?_; refine zze ?_; refine zze ?_
      refine ZaX rfl rfl rfl rfl rfl rfl rfl rfl rfl rfl rfl ?_
      refine zza ?_; refine AOps.nil (ARun.seq (ARun.region ?_))
      refine y_op rfl (Zan rfl rfl rfl rfl rfl rfl rfl rfl rfl rfl rfl (by decide) (by decide) rfl) ?_
      refine zza ?_; refine AOps.nil (ARun.seq (ARun.seq (ARun.region ?_))); refine zzm ?_; refine zzi ?_; refine zzm ?_; refine zzk ?_; refine zzk ?_; refine zzk ?_; refine zzk ?_; refine zzk ?_; refine zzk ?_; refine zzk ?_; refine zzk ?_; refine zzp ?_; refine AOps.nil ?_
      refine ARun.condF rfl ?_
      refine ARun.skip (ARun.seq (ARun.region ?_)); refine zzm ?_; refine zzi ?_; refine AOps.nil ?_
      refine ARun.condF rfl ?_
      refine ARun.skip ?_
      exact ARun.ag (run (()) (trivial))
    rw [hff] at hTw
    have hk6 : kk < 6 := by
      have h2 := List.mem_of_find?_eq_some hff
      rw [List.mem_range'_1] at h2; omega
    have hkf : fitsP a b u n kk = true := List.find?_some hff
    have hbl : bl a ≤ tyB kk := by
      unfold fitsP at hkf
      rw [Bool.and_eq_true] at hkf
      exact of_decide_eq_true hkf.2
    have hw : PC C ZcY [intD (a : Int), .int .i64 ((bw (kk / 2) : Nat) : Int), .bool (!decide (kk % 2 = 1))] (fun o => o = .ret (.tup [intD (a : Int), .int .i64 0])) := (w_Wrap_ok (a := (a : Int)) (n := bw (kk / 2)) (!decide (kk % 2 = 1)) (by unfold fitZ; rw [Int.natAbs_natCast]; exact ha) (by unfold bw; split <;> decide) (by unfold bw; split <;> decide)).mono fun o h => by rw [h, wrap_id hk6 hbl]
    refine ARun.condT rfl ?_
    refine ARun.seq (ARun.region ?_); refine zzm ?_
    refine zzc rfl rfl (PC.gl hPC) ?_
    refine zzm ?_; refine zze ?_; refine zze ?_; refine zze ?_
    refine ZaX rfl rfl rfl rfl rfl rfl rfl rfl rfl rfl rfl ?_
    refine zza ?_; refine zza ?_; refine AOps.nil (ARun.seq (ARun.seq (ARun.region ?_))); refine zzm ?_
    refine y_op rfl (Zdo rfl rfl rfl) ?_
    refine zzm ?_; refine zzm ?_
    refine y_op rfl (Zdo rfl rfl rfl) ?_
    refine zzp ?_; refine zzm ?_; refine zzL ?_; refine zzL ?_
    refine zzc rfl rfl (PC.gl (Ze2 (a, b, u, n) ha)) ?_
    refine zzn ?_; refine zzp ?_; refine AOps.nil ?_
    refine ARun.condF rfl ?_
    refine ARun.skip (ARun.seq (ARun.region ?_)); refine zzL ?_
    refine zzc rfl rfl (hTw) ?_
    refine zzm ?_; refine zze ?_; refine zze ?_
    refine ZaX rfl rfl rfl rfl rfl rfl rfl rfl rfl rfl rfl ?_
    refine zza ?_; refine AOps.nil (ARun.seq (ARun.region ?_))
    refine y_op rfl (Zan rfl rfl rfl rfl rfl rfl rfl rfl rfl rfl rfl (by decide) (by decide) rfl) ?_
    refine zza ?_; refine AOps.nil (ARun.seq (ARun.seq (ARun.region ?_))); refine zzm ?_; refine zzi ?_; refine zzm ?_; refine zzf ?_; refine zzl ?_
    refine y_op rfl (OpQ.cast (d' := .bool false) (q_int rfl rfl rfl) (congrArg D.bool (decide_eq_false (show ¬ ((kk / 2 : Nat) : Int) < 0 by omega)))) ?_
    refine zzm ?_; refine zzf ?_; refine zzl ?_
    refine y_op rfl (OpQ.cast (d' := .bool false) (q_int rfl rfl rfl) (congrArg D.bool (decide_eq_false (show ¬ ((kk / 2 : Nat) : Int) > 2 by omega)))) ?_
    refine zzp ?_; refine zzp ?_; refine AOps.nil ?_
    refine ARun.condF rfl ?_
    refine ARun.skip (ARun.seq (ARun.region ?_)); refine zzm ?_; refine zzi ?_; refine AOps.nil ?_
    refine ARun.condT rfl ?_
    refine ARun.seq ?_
    refine ARun.drawnF (n := 17) (fun S : Nat → Bool => _) [(15, 16, 27, [.bool false, .nilsl], some (16, [.bool (decide ((a : Int) < 0)), numD (a : Int).natAbs]))] (fun _ => False) (sk := [(15, some 16)]) mixC rfl rfl (by kernel_rfl) rfl (by kernel_rfl) rfl rfl (fun _ _ _ h => h.elim) ?_
    refine DChG.op rfl (fun _ => q_fldS rfl rfl rfl (by decide)) (fun _ => rfl) rfl rfl ?_
    refine DChG.op rfl (fun _ => q_load rfl rfl rfl rfl) (fun _ => rfl) rfl rfl ?_
    refine DChG.op rfl (fun _ => OpQ.cast (Zap rfl rfl rfl rfl rfl) (intN a)) (fun _ => rfl) rfl rfl ?_
    refine DChG.op rfl (fun _ => q_move rfl) (fun _ => rfl) rfl rfl ?_
    refine DChG.op rfl (fun _ => q_fldS rfl rfl rfl (by decide)) (fun _ => rfl) rfl rfl ?_
    refine DChG.op rfl (fun _ => q_load rfl rfl rfl rfl) (fun _ => rfl) rfl rfl ?_
    refine DChG.op rfl (fun _ => Zag rfl rfl rfl rfl (show (0 : Int) ≤ ((kk / 2 : Nat) : Int) by omega) (show ((kk / 2 : Nat) : Int) < ((3 : Nat) : Int) by omega) (List.cons_ne_nil _ _) (drop_nat (i := kk / 2) rfl)) (fun _ => rfl) rfl rfl ?_
    refine DChG.op rfl (fun _ => q_load rfl rfl rfl (bits_at (kk / 2) (by omega))) (fun _ => rfl) rfl rfl ?_
    refine DChG.op rfl (fun _ => q_fldS rfl rfl rfl (by decide)) (fun _ => rfl) rfl rfl ?_
    refine DChG.op rfl (fun _ => q_load rfl rfl rfl rfl) (fun _ => rfl) rfl rfl ?_
    refine DChG.op rfl (fun _ => q_not rfl) (fun _ => rfl) rfl rfl ?_
    refine DChG.op rfl (fun _ => q_call rfl rfl (PC.gl hw)) (fun _ => rfl) rfl rfl ?_
    refine DChG.op rfl (fun _ => q_move rfl) (fun _ => rfl) rfl rfl ?_
    refine DChG.op rfl (fun _ => Zai rfl rfl) (fun _ => rfl) rfl rfl ?_
    refine DChG.op rfl (fun _ => Zai rfl rfl) (fun _ => rfl) rfl rfl ?_
    refine .al rfl rfl rfl rfl (fun _ => rfl) rfl rfl rfl ?_
    refine .sp (j := 15) rfl rfl rfl rfl rfl rfl rfl (fun _ => rfl) rfl rfl rfl (by kernel_rfl) ?_
    refine .nil (fun hG => AOps.fixed (as' := [(15, 16, 27, [.bool (decide ((a : Int) < 0)), numD (a : Int).natAbs])]) rfl ?_)
    refine zza ?_; refine AOps.nil (ARun.seq (ARun.region ?_)); refine zzm ?_
    refine y_op rfl (Zdo rfl rfl rfl) ?_
    refine zzm ?_; refine zzL ?_; refine zzf ?_; refine zzl ?_
    refine y_op rfl (OpQ.cast (Zap rfl rfl rfl rfl rfl) (intN a)) ?_
    refine zzc rfl rfl (PC.gl (Zg7 (a : Int) (a : Int) (by unfold fitZ; rw [Int.natAbs_natCast]; exact ha) rfl)) ?_
    refine zzn ?_; refine zzp ?_; refine AOps.nil ?_
    refine ARun.condF rfl ?_
    refine ARun.skip ?_
    exact ARun.ag (run (()) (trivial))
  rintro jv hj
  try dsimp only at hj ⊢
  have hX := Zcq s
  have hY := Zcq (bytesOf (plainL (sby s)))
  have hXf := parseC_fit s
  have hpp : (parseC s).2.1 = 0 → parseC (bytesOf (plainL (sby s))) = parseC s := parse_plain
  generalize parseC (bytesOf (plainL (sby s))) = y at *
  generalize parseC s = x at *
  obtain ⟨⟨xv, xb, xu, xn⟩, xe, xa⟩ := x
  refine ARun.seq (ARun.region ?_); refine zzm ?_
  refine zzc rfl rfl (PC.gl hX) ?_
  refine zzm ?_; refine zze ?_; refine zze ?_; refine zze ?_
  refine ZaX rfl rfl rfl rfl rfl rfl rfl rfl rfl rfl rfl ?_
  refine zza ?_; refine zza ?_; refine AOps.nil (ARun.seq (ARun.region ?_)); refine zzm ?_
  refine zzc rfl rfl (PC.gl (Zlr s hs)) ?_
  refine zzc rfl rfl (PC.gl hY) ?_
  refine zzm ?_; refine zze ?_; refine zze ?_; refine zze ?_
  refine ZaX rfl rfl rfl rfl rfl rfl rfl rfl rfl rfl rfl ?_
  refine zza ?_; refine zza ?_; refine AOps.nil (ARun.seq (ARun.seq ?_))
  refine ARun.join (S := Unit) (fun jv : Unit => [(129, .any), (130, .any), (131, .any), (132, .any), (133, .any), (134, .any), (135, .any), (136, .any), (137, .any), (138, .any), (139, .any), (140, .bool false)]) (fun jv : Unit => True) (fun run => ?_) ?_
  · skip
    refine ARun.region ?_; refine zzm ?_; refine zzi ?_; refine zzm ?_
    refine AOps.bool 131 rfl (fun c1 => ?_) (fun c1 => ?_)
    · skip
      have c1 : xe = 0 := of_decide_eq_true c1
      obtain rfl := hpp c1
      obtain rfl := c1
      refine zzm ?_
      refine y_op rfl (Zdo rfl rfl rfl) ?_
      refine zzm ?_; refine zzL ?_; refine zzL ?_
      refine zzc rfl rfl (PC.gl (Ze2 (xv, xb, xu, xn) hXf)) ?_
      refine zzn ?_; refine zzp ?_; refine zzp ?_; refine AOps.nil ?_
      exact ARun.ag (run (()) (trivial))
    refine zzk ?_; refine zzk ?_; refine zzk ?_; refine zzk ?_; refine zzk ?_; refine zzk ?_; refine zzk ?_; refine zzk ?_; refine zzp ?_; refine AOps.nil ?_
    exact ARun.ag (run (()) (trivial))
  rintro jv hj
  try dsimp only at hj ⊢
  refine ARun.condF rfl ?_
  refine ARun.skip (ARun.seq (ARun.seq (ARun.region ?_))); refine zzf ?_; refine zzl ?_; refine zzm ?_
  refine AOps.bool 143 rfl (fun m1 => ?_) (fun m1 => ?_)
  · skip
    refine zzk ?_; refine zzk ?_; refine zzk ?_; refine zzk ?_; refine zzp ?_; refine AOps.nil ?_
    refine ARun.condT rfl ?_
    refine ARun.seq (ARun.region ?_); refine zzm ?_; refine zza ?_; refine AOps.nil ?_
    refine ARun.ret ?_
    refine ⟨_, _, _, .tmp rfl .nil, .cons (.same _) .nil, rfl, ?_⟩
    rfl
  have m1 : ¬ z < 0 := of_decide_eq_false m1
  obtain ⟨a, rfl⟩ : ∃ a : Nat, z = (a : Int) := ⟨z.toNat, by omega⟩
  refine zzf ?_; refine zzl ?_; refine zzN ?_; refine zzi ?_; refine zzp ?_; refine AOps.nil ?_
  refine ARun.ite rfl (fun m2 => ?_) (fun m2 => ?_)
  · skip
    refine ARun.seq (ARun.region ?_); refine zzm ?_; refine zza ?_; refine AOps.nil ?_
    refine ARun.ret ?_
    refine ⟨_, _, _, .tmp rfl .nil, .cons (.same _) .nil, rfl, ?_⟩
    rfl
  have hz60 : (lim a).length ≤ 60 := by have h := hz; unfold lnZ at h; rwa [Int.natAbs_natCast] at h
  have hfa : fitZ (a : Int) := lnZ_fit hz
  have h0 : 0 < a := by
    rcases Nat.eq_zero_or_pos a with h | h
    · subst h; exfalso; apply m2; rw [Int.natAbs_natCast, lim_zero]; rfl
    exact h
  have hT : PC C ZcZ [intD (a : Int), .int .i64 10, .bool false] (fun o => o = .ret (.tup [.str (bytesOf (strZ 10 false (a : Int))), .int .i64 0])) := (Zj1 (decide ((a : Int) < 0), lim (a : Int).natAbs) (U32_lim _) 10 false).mono fun o h => by
    have : textR (decide ((a : Int) < 0), lim (a : Int).natAbs) 10 false = (strZ 10 false (a : Int), 0) := by
      unfold textR; rw [okI_of hfa, decide_eq_true (show (2 : Int) ≤ 10 by decide), decide_eq_true (show (10 : Int) ≤ 36 by decide), valI_int]; rfl
    rw [h, this]
  have hV : PC C Zb6 [.str (bytesOf (strZ 10 false (a : Int)))] (fun o => o = cOut ((a, 10, false, 0), 0, 0)) := (Zcq _).mono fun o h => by rw [h, ← print_dec, parse_print hz60 (by decide) (.inr (.inr (.inr ⟨rfl, h0⟩)))]
  refine ARun.skip (ARun.seq (ARun.region ?_)); refine zzL ?_
  refine zzc rfl rfl (PC.gl hT) ?_
  refine zzm ?_; refine zze ?_; refine zze ?_; refine zza ?_; refine zza ?_; refine AOps.nil (ARun.seq (ARun.region ?_)); refine zzm ?_
  refine zzc rfl rfl (PC.gl hV) ?_
  refine zzm ?_; refine zze ?_; refine zze ?_; refine zze ?_
  refine ZaX rfl rfl rfl rfl rfl rfl rfl rfl rfl rfl rfl ?_
  refine zza ?_; refine zza ?_; refine AOps.nil (ARun.seq (ARun.region ?_)); refine zzm ?_; refine zzm ?_; refine zzm ?_
  refine y_op rfl (Zex rfl rfl rfl) ?_
  refine zzp ?_; refine zzm ?_; refine zzm ?_
  refine y_op rfl (Zex rfl rfl rfl) ?_
  refine zzp ?_; refine zzm ?_; refine zzf ?_; refine zzl ?_
  refine y_op rfl (OpQ.cast (Zap rfl rfl rfl rfl rfl) (intN a)) ?_
  refine zzL ?_
  refine zzc rfl rfl (PC.gl (Zg7 (a : Int) (a : Int) hfa rfl)) ?_
  refine zzp ?_; refine zzm ?_; refine zzf ?_; refine zzl ?_
  refine y_op rfl (Zex rfl rfl rfl) ?_
  refine zzp ?_; refine zza ?_; refine AOps.nil ?_
  refine ARun.ret ?_
  refine ⟨_, _, _, .tmp rfl .nil, .cons (.same _) .nil, rfl, ?_⟩
  rfl
end Go.V
/- THE ROWS: what the arguments read as, and what is left behind a call. -/
set_option maxRecDepth 100000
namespace Go.V
open Go.RowKit Go.Proofs Go.ChangeShapes Go.WideShapes Go.ChangeAt Go.ChangeMaps
theorem laidOutZ : laidOutB Tryz.prog = true := by kernel_rfl
theorem ownZ : ownKnob Tryz.prog.godebug = none := by kernel_rfl
theorem cell_lt {w : World} {a : Addr} {v : Value} (h : w.cell? a = some v) : a.block < w.heap.size := by
  apply Classical.byContradiction
  intro hn
  have : w.heap[a.block]? = none := by rw [Array.getElem?_eq_none_iff]; omega
  simp [World.cell?, this] at h
theorem forb0 : forb (fun _ => False) [] [] = fun _ => False := by
  funext b
  apply propext
  constructor
  · rintro (h | ⟨i, o, h, _⟩)
    · exact h
    simp at h
  exact fun h => h.elim
section
variable {H : Type} {enc : TypeId × Value → H} {W : World}
theorem vr_limbs {fuel : Nat} {cs : List Value} {x : DataW H × List MemPlace} (h : DataW.trod enc Tryz.prog W 0 (fun _ => true) true fuel 23 cs = some x) :
    ∃ (v : Value) (xs : List Nat), cs = [v] ∧ U32 xs ∧ VR W (fun _ => False) [] [] (sln .u32 xs) v := by
  rcases open_ints Tryz.underlying23 Tryz.underlying76 (by kernel_rfl) h with ⟨rfl, _⟩ | ⟨a, len, cap, zs, rfl, _, hl, hm, hz, _, hcell, hwf⟩
  · refine ⟨_, [], rfl, fun _ h => (by cases h), ?_⟩
    simp only [VR]
    exact ⟨none, 0, rfl, Nat.le_refl _, Nat.zero_le _, fun h => (h rfl).elim⟩
  simp only [if_true] at hz
  have hb : ∀ n ∈ zs, 0 ≤ n ∧ n < 4294967296 := by
    intro n hn
    have := hwf n hn
    simp [Lit.wf, IntKind.min, IntKind.max, IntKind.signed, IntKind.bits] at this
    omega
  have hu : U32 ((zs.take len).map Int.toNat) := by
    intro y hy
    obtain ⟨n, hn, rfl⟩ := List.mem_map.1 hy
    have := hb n (List.mem_of_mem_take hn)
    show n.toNat < 4294967296
    omega
  have hlen : ((zs.take len).map Int.toNat).length = len := by rw [List.length_map, List.length_take]; omega
  refine ⟨_, (zs.take len).map Int.toNat, rfl, hu, ?_⟩
  have hget : ∀ j : Nat, j < len → nts .u32 ((zs.take len).map Int.toNat) = nts .u32 ((zs.take len).map Int.toNat) → ((nts .u32 ((zs.take len).map Int.toNat))[j]? = some (.int .u32 (zs.getD j 0))) := by
    intro j hj _
    have hjz : j < zs.length := by omega
    have hn := hb (zs[j]'hjz) (List.getElem_mem hjz)
    simp only [nts, List.map_map, List.getElem?_map, List.getElem?_take, if_pos hj, List.getElem?_eq_getElem hjz, Option.map_some, Function.comp, List.getD_eq_getElem?_getD, Option.getD_some]
    congr 2
    omega
  simp only [VR]
  refine ⟨some a, cap, by rw [hlen], by rw [hlen]; exact hl, hm, fun hne => ⟨a, rfl, ?_, id, VRL_mk fun j d hd => ?_⟩⟩
  · have h0 : 0 < zs.length := by
      rcases Nat.eq_zero_or_pos zs.length with h | h
      · have : zs = [] := List.eq_nil_of_length_eq_zero h
        subst this
        simp [nts] at hne
      exact h
    exact cell_lt (hcell 0 h0)
  have hj : j < len := by
    have := (List.getElem?_eq_some_iff.1 hd).1
    simp only [nts, List.length_map, List.length_take] at this
    omega
  rw [hget j hj rfl] at hd
  injection hd with hd
  subst hd
  exact ⟨_, by rw [Nat.zero_add]; exact hcell j (by omega), rfl, by simp only [VR]⟩
theorem vr_Int {base : Nat} {v : Value} {d : DataW H} {p : List MemPlace} (hv : Value.okWide Tryz.prog W .any base 27 v) (h : DataW.Trod enc Tryz.prog W 0 (fun _ => true) true 27 v d p) :
    ∃ e : Bool × List Nat, U32 e.2 ∧ VR W (fun _ => False) [] [] (.agg [.bool e.1, sln .u32 e.2]) v := by
  obtain ⟨cs, rfl, hsz⟩ := okWide_struct Tryz.underlying27 hv
  obtain ⟨fuel, hf⟩ := h
  obtain ⟨y0, y1, n, _, hl, h0, h1⟩ := trod_struct2 Tryz.underlying27 hf
  have c25 : Tryz.prog.cellsOf 27 = 2 := by kernel_rfl
  have c4 : Tryz.prog.cellsOf 4 = 1 := by kernel_rfl
  have c23 : Tryz.prog.cellsOf 23 = 1 := by kernel_rfl
  rw [c25] at hsz
  obtain ⟨l⟩ := cs
  match l, hsz with
  | [c0, c1], _ =>
    simp only [Value.cells] at h0 h1
    rw [c4] at h0
    rw [c23] at h1
    obtain ⟨b, e0, _⟩ := DataW.trod_bool Tryz.underlying4 h0
    obtain ⟨v1, xs, e1, hu, hx⟩ := vr_limbs h1
    simp at e0 e1
    subst e0; subst e1
    refine ⟨(b, xs), hu, ?_⟩
    simp only [VR, VRs]
    refine ⟨[.bool b, c1], rfl, .bool b, [c1], rfl, rfl, c1, [], rfl, ?_, rfl⟩
    simpa only [VR] using hx
theorem vr_string {base : Nat} {v : Value} {d : DataW H} {p : List MemPlace} (hv : Value.okWide Tryz.prog W .any base 9 v) (h : DataW.Trod enc Tryz.prog W 0 (fun _ => true) true 9 v d p) :
    ∃ s : ByteArray, s.size ≤ maxLen ∧ VR W (fun _ => False) [] [] (.str s) v := by
  obtain ⟨s, rfl, _, _, hs⟩ := open_string Tryz.underlying9 hv h
  exact ⟨s, hs, by simp only [VR]⟩
theorem trodAll_stays {W' : World} (hb : Below W.heap.size W W') {sp : Nat → Bool} : ∀ {ts : List TypeId} {vs : List Value} {ds : List (DataW H)} {p : List MemPlace}, (∀ t ∈ ts, Tryz.prog.readableRec t = true ∧ t < Tryz.prog.types.size) →
    DataW.TrodAll enc Tryz.prog W 0 (fun _ => true) true ts vs ds p → (∀ x ∈ p, x.block < W.heap.size ∧ sp x.block = true) → DataW.TrodAll enc Tryz.prog W' 0 sp true ts vs ds p
  | [], _, _, _, _, h, _ => by
    obtain ⟨rfl, rfl, rfl⟩ := trodAll_nil h
    simp [DataW.TrodAll]
  | t :: ts, _, _, _, ht, h, hp => by
    obtain ⟨v, vs, d, ds, a, b, rfl, rfl, rfl, h1, h2⟩ := trodAll_cons h
    obtain ⟨r1, r2⟩ := ht t (List.mem_cons_self ..)
    exact ⟨a, b, WideElems.Trod_stays laidOutZ r1 r2 h1 (fun x hx => hb.same (hp x (List.mem_append_left _ hx)).1) (fun x hx => (hp x (List.mem_append_left _ hx)).2),
      trodAll_stays hb (fun t ht' => ht t (List.mem_cons_of_mem _ ht')) h2 (fun x hx => hp x (List.mem_append_right _ hx)), rfl⟩
theorem law_post {fn : Func} {s : ChangeSpec} {W' : World} {args : Array Value} {ds : List (DataW H)} {before : List MemPlace} (hs : s.vars = []) (hW : DataW.Whole enc Tryz.prog fn.params.toList s.vars false W args.toList ds [] before) (hf : s.fn H ds = { results := [.lit (.bool true)], args := ds })
    (hr : fn.resultTypes = #[4]) (hts : ∀ t ∈ fn.params.toList, Tryz.prog.readableRec t = true ∧ t < Tryz.prog.types.size) (hb : Below W.heap.size W W') : s.post enc Tryz.prog fn false true false false W args (.bool true) W' := by
  have hW' := hW
  obtain ⟨p, q, hA, hV, rfl, _, _⟩ := hW
  rw [hs] at hV
  obtain ⟨_, rfl⟩ := trodVars_none hV
  have hlt : ∀ x ∈ p, x.block < W.heap.size := fun x hx => by simpa using hW'.lt x (List.mem_append_left _ hx)
  refine ⟨ds, [], p ++ [], [], p, [], hW', ?_, ?_, ?_, hb.frame _, fun h => by cases h⟩
  · rw [List.append_nil, hf, hr]
    exact trodAll_mk1 (shut_bool Tryz.underlying4 _)
  · rw [List.append_nil, hf]
    exact trodAll_stays hb hts hA fun x hx => ⟨hlt x hx, by simpa using hlt x hx⟩
  rw [List.append_nil, hf, hs]
  rfl
end
end Go.V
/- THE ROW of a law that reads the table of types: the table, as it lies; constants that come in. -/
set_option maxRecDepth 100000
namespace Go.V
open Go.RowKit Go.Proofs Go.ChangeShapes Go.WideShapes Go.ChangeAt Go.ChangeMaps Go.Proofs.YtjohcjagbodicabGreatDoor
theorem types_laid {W : World} (h : laidMetH Tryz.prog Rows.wholeTypesRow.laid W) : 0 < W.heap.size ∧ VRL W (fun _ => False) ⟨0, 0, none⟩ 0 tyCells := by
  rw [MakeChecks.laidMetH_plain _ _ _ (by kernel_rfl)] at h
  obtain ⟨ps, ⟨g0, t0, cs0, f0, p0, q0, hg0, ht0, hv0, hd0, ⟨g1, t1, cs1, f1, p1, q1, hg1, ht1, hv1, hd1, _, _⟩, _⟩, _, _⟩ := h
  have gT : Tryz.prog.globalNamed "soroban/whole.types" = some 0 := by kernel_rfl
  have tT : (Tryz.prog.globals[0]?).map (·.type) = some 71 := by kernel_rfl
  obtain rfl := Option.some.inj (gT.symm.trans hg1)
  obtain rfl := Option.some.inj (tT.symm.trans ht1)
  have hf := flat_ok 4 f1 71 cs1.toList _ (by kernel_rfl) hd1
  have hV : valsD tyCells = flatV (Rows.laid_soroban_whole_types (H := Unit)) := by rfl
  have hcs : valsD tyCells = some cs1.toList := hV.trans hf
  have hcell : ∀ (j : Nat) (v : Value), cs1.toList[j]? = some v → W.cell? ⟨0, 0 + j, none⟩ = some v := fun j v hj => by
    rw [Nat.zero_add, World.var?_cell hg1 hv1 j]
    simpa using hj
  refine ⟨?_, VRL_vals hcs hcell⟩
  have h0 : ∃ v, cs1.toList[0]? = some v := by
    have : cs1.toList = [.int .i64 0, .bool false, .int .i64 31, .int .i64 0, .bool true, .int .i64 32, .int .i64 1, .bool false, .int .i64 63, .int .i64 1, .bool true, .int .i64 64, .int .i64 2, .bool false, .int .i64 63, .int .i64 2, .bool true, .int .i64 64] := Option.some.inj (hcs.symm.trans rfl)
    rw [this]; exact ⟨_, rfl⟩
  obtain ⟨v, hv⟩ := h0
  exact cell_lt (hcell 0 v hv)
theorem SRg {W : World} (h : 0 < W.heap.size ∧ VRL W (fun _ => False) ⟨0, 0, none⟩ 0 tyCells) : SR Cg (fun _ => False) W [] [] :=
  ⟨rfl, fun i o b h => by simp at h, fun i j oi oj b h => by simp at h, fun i o b h => by simp at h, fun b h => h.elim, fun g cs hg => by
    have hg : (g, cs) ∈ [(0, tyCells)] := hg
    rw [List.mem_singleton] at hg
    obtain ⟨rfl, rfl⟩ := Prod.mk.inj hg
    rw [forb0]
    exact ⟨h.1, fun h => h, h.2⟩⟩
theorem law_callsG {f : FuncId} {ds : List D} {W : World} {vs : List Value} (hl : 0 < W.heap.size ∧ VRL W (fun _ => False) ⟨0, 0, none⟩ 0 tyCells) (hc : PC Cg f ds (fun o => o = .ret (.bool true))) (hv : VRs W (fun _ => False) [] [] ds vs) : Calls Tryz.prog f vs.toArray W fun e W' => e = .returned (.bool true) ∧ Below W.heap.size W W' := by
  have h := (hc []).2 (fun _ => False) W [] vs (SRg hl) (by rw [forb0]; exact hv)
  refine h.mono ?_
  rintro e W' ⟨o, H', μ', ⟨rfl, rfl⟩, _, ⟨v, he, hv'⟩, hevo⟩
  simp only [VR] at hv'
  subst hv'
  exact ⟨he, hevo.os, hevo.tape, hevo.output, hevo.size, fun k hk => hevo.chg k hk fun ⟨i, o, h, _⟩ => by simp at h⟩
section
variable {H : Type} {enc : TypeId × Value → H} {W : World}
theorem vr_Con {base : Nat} {v : Value} {d : DataW H} {p : List MemPlace} (hv : Value.okWide Tryz.prog W .any base 25 v) (h : DataW.Trod enc Tryz.prog W 0 (fun _ => true) true 25 v d p) :
    ∃ e : Ca, U32 e.1 ∧ VR W (fun _ => False) [] [] (caD e) v := by
  obtain ⟨cs, rfl, hsz⟩ := okWide_struct Tryz.underlying25 hv
  obtain ⟨fuel, hf⟩ := h
  obtain ⟨xs, n, _, _, hl, hlen, hall⟩ := DataW.trod_struct Tryz.underlying25 hf
  have c87 : Tryz.prog.cellsOf 25 = 4 := by kernel_rfl
  have c23 : Tryz.prog.cellsOf 23 = 1 := by kernel_rfl
  have c3 : Tryz.prog.cellsOf 3 = 1 := by kernel_rfl
  have c4 : Tryz.prog.cellsOf 4 = 1 := by kernel_rfl
  rw [c87] at hsz
  obtain ⟨l⟩ := cs
  match l, hsz, xs, hlen with
  | [v0, v1, v2, v3], _, [x0, x1, x2, x3], _ =>
    have h0 : DataW.trod enc Tryz.prog W 0 (fun _ => true) true n 23 ((([v0, v1, v2, v3] : List Value).drop 0).take (Tryz.prog.cellsOf 23)) = some x0 := hall 0 _ rfl
    have h1 : DataW.trod enc Tryz.prog W 0 (fun _ => true) true n 3 ((([v0, v1, v2, v3] : List Value).drop 1).take (Tryz.prog.cellsOf 3)) = some x1 := hall 1 _ rfl
    have h2 : DataW.trod enc Tryz.prog W 0 (fun _ => true) true n 4 ((([v0, v1, v2, v3] : List Value).drop 2).take (Tryz.prog.cellsOf 4)) = some x2 := hall 2 _ rfl
    have h3 : DataW.trod enc Tryz.prog W 0 (fun _ => true) true n 3 ((([v0, v1, v2, v3] : List Value).drop 3).take (Tryz.prog.cellsOf 3)) = some x3 := hall 3 _ rfl
    rw [c23] at h0
    rw [c3] at h1 h3
    rw [c4] at h2
    obtain ⟨w0, es, e0, hu, hx⟩ := vr_limbs (x := x0) h0
    obtain ⟨n1, e1, _, _⟩ := DataW.trod_int (x := x1) Tryz.underlying3 h1
    obtain ⟨b2, e2, _⟩ := DataW.trod_bool (x := x2) Tryz.underlying4 h2
    obtain ⟨n3, e3, _, _⟩ := DataW.trod_int (x := x3) Tryz.underlying3 h3
    simp at e0 e1 e2 e3
    subst e0; subst e1; subst e2; subst e3
    refine ⟨(es, n1, b2, n3), hu, ?_⟩
    simp only [VR, VRs]
    refine ⟨_, rfl, v0, _, rfl, ?_, _, _, rfl, rfl, _, _, rfl, rfl, _, _, rfl, rfl, rfl⟩
    simpa only [VR] using hx
end
end Go.V
/- The closed facts of a row, one by one: what holds of the program itself, and how they are joined; no condition. -/
set_option maxRecDepth 100000
namespace Go.V
open Go.Proofs
theorem and_t {a b : Bool} (h1 : a = true) (h2 : b = true) : (a && b) = true := by rw [h1, h2]; rfl
theorem joined_of {P : Program} {f : FuncId} {fn : Func} {s : ChangeSpec} {c : OpenClaim}
    (k1 : (c.wf (OpenSpec.ofChange s)) = true)
    (k2 : (laidOutB P) = true)
    (k3 : (mapsRowed P) = true)
    (k4 : (fn.params.all (P.readableRec ·)) = true)
    (k5 : (namedTie P c.named s.vars) = true)
    (k6 : (c.stops == []) = true)
    (k7 : (P.stops == []) = true)
    (k8 : (c.knobs == []) = true)
    (k9 : (P.stopKnobs == []) = true)
    (k10 : (c.inPlace == P.inPlace f) = true)
    (k11 : (c.unfollowed == P.unfollowed f) = true)
    (k12 : (c.recurses == P.recurses f) = true)
    (k13 : (c.named == P.varsNamed f) = true)
    (k14 : ((c.maps == (fn.params.toList ++ s.plain.varTypes P).any (P.mapsRec ·))) = true)
    (k15 : ((c.ifaces == (fn.params.toList ++ s.plain.varTypes P).any (P.ifacesRec ·))) = true)
    (k16 : (c.mapsOut == P.mapsAmong fn.resultTypes.toList) = true)
    (k17 : ((c.loops == (fn.params.toList ++ s.plain.varTypes P).any (P.loopsFrom ·))) = true)
    (k18 : ((c.wideKeys == (fn.params.toList ++ s.plain.varTypes P ++ fn.resultTypes.toList).any (P.wideKeysFrom ·))) = true)
    (k19 : (s.vars.all (P.varReadable ·)) = true)
    (k20 : (fn.resultTypes.all (fun t => P.readableRec t && decide (t < P.types.size))) = true)
    (k21 : ((c.ifacesOut == fn.resultTypes.toList.any (P.ifacesRec ·))) = true)
    (k22 : ((c.loopsOut == fn.resultTypes.toList.any (P.loopsFrom ·))) = true)
    (k23 : (c.plainKeys == P.plainKeys) = true)
    (k24 : (c.shortTexts.isNone) = true)
    (k25 : (P.stopsHeard) = true)
    (k26 : (P.mayEnter) = true)
    (k27 : (c.lifted == P.liftsFinal) = true)
    (k28 : (P.make == some c.make) = true)
    (k29 : ((c.kinds == (if c.domain.isEmpty then [] else fn.params.toList.map fun t => match P.underlying t with | some (.int k) => some k | _ => none))) = true)
    (k30 : (c.pinned == c.pinnedBy) = true)
    (k31 : ((c.veiled == (fn.params.toList ++ s.plain.varTypes P ++ fn.resultTypes.toList).any (P.veiledRec ·))) = true)
    (k32 : (c.veiledFits P fn.params.toList (fn.params.toList ++ s.plain.varTypes P ++ fn.resultTypes.toList)) = true)
    : joinedFacts P f fn s c = true := by
  unfold joinedFacts
  exact and_t (and_t (and_t (and_t (and_t (and_t (and_t (and_t (and_t (and_t (and_t (and_t (and_t (and_t (and_t (and_t (and_t (and_t (and_t (and_t (and_t (and_t (and_t (and_t (and_t (and_t (and_t (and_t (and_t (and_t (and_t k1 k2) k3) k4) k5) k6) k7) k8) k9) k10) k11) k12) k13) k14) k15) k16) k17) k18) k19) k20) k21) k22) k23) k24) k25) k26) k27) k28) k29) k30) k31) k32
theorem z_maps : mapsRowed Tryz.prog = true := by kernel_rfl
theorem z_plainKeys : (Go.Proofs.YtjohcjagbodicabGreatDoor.Rows.wholeTypesRow.plainKeys == Tryz.prog.plainKeys) = true := by kernel_rfl
theorem z_stopsHeard : Tryz.prog.stopsHeard = true := by kernel_rfl
theorem z_lifts : (Go.Proofs.YtjohcjagbodicabGreatDoor.Rows.wholeTypesRow.lifted == Tryz.prog.liftsFinal) = true := by kernel_rfl
theorem z_make : (Tryz.prog.make == some Go.Proofs.YtjohcjagbodicabGreatDoor.Rows.wholeTypesRow.make) = true := by kernel_rfl
theorem z_main : YtjohcjagbodicabGreatDoor.Tryz.pinned.checked.prog.mainIs = some (true, "0eaac02da20f3b0a4a7643b70ef23497176c9d6e71762c3dc05b4930fe19773c".toList) := by kernel_rfl
theorem z_looks : true = Tryz.prog.looks [] := by kernel_rfl
theorem z_enter : Tryz.prog.mayEnter = true := by kernel_rfl
end Go.V
