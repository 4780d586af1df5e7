/- WholeBits: the contract lifted to the row's words; no condition. -/
import Derived.Test.YtjohcjagbodicaaGreatDoorA17
set_option linter.unusedVariables false
set_option linter.unusedSimpArgs false
set_option maxRecDepth 100000
namespace Go.Proofs.YtjohcjagbodicaaGreatDoor
open Go.ChangeShapes Go.WideShapes Go.ChangeAt Go.RowKit Go.V
theorem wholeBits_types : ∀ t ∈ ([25, 25, 3, 4, 3, 3] : List TypeId), Tryz.prog.readableRec t = true ∧ t < Tryz.prog.types.size := by
  intro t ht
  simp only [List.mem_cons, List.not_mem_nil, or_false] at ht
  rcases ht with rfl | rfl | rfl | rfl | rfl | rfl <;> exact ⟨by kernel_rfl, of_decide_eq_true (by kernel_rfl)⟩
theorem wholeBits_lifted (os : Os) (started : os.Started) (H : Type) (enc : TypeId × Value → H) :
    ReturnsInHanded {} Tryz.checked os 15 .any (fun w args => (Rows.wholeBitsSpec.pre enc Tryz.prog Tryz.f15 [] false w args ∧ laidMetH Tryz.prog Rows.wholeBitsRow.laid w) ∧ sizedMet enc Tryz.prog Tryz.f15 (OpenSpec.ofChange Rows.wholeBitsSpec) false w args)
      (Rows.wholeBitsSpec.post enc Tryz.prog Tryz.f15 false true false false) := by
  refine returnsInHanded_of_change_and (C := Tryz.checked) (X := fun w _ => laidMetH Tryz.prog Rows.wholeBitsRow.laid w) (fun _ _ _ hh h => h.of_heap hh) ownZ started (by kernel_rfl) Tryz.func15
    (ChangeSpec.witness_shaped (enc := enc) (C := Tryz.checked) (os := os) (X := fun w _ => laidMetH Tryz.prog Rows.wholeBitsRow.laid w) false (World.laidAll Tryz.prog os Rows.wholeBitsRow.laid) #[.agg #[.bool false, .slice none 0 0], .agg #[.bool false, .slice none 0 0], .int .i64 0, .bool false, .int .i64 0, .int .i64 0] 8 (World.laidAll_os _ _ _)
      (World.shaped_of_ZipB (by kernel_rfl) (by kernel_rfl)) (by kernel_rfl) (by kernel_rfl) (by kernel_rfl)
      (by rw [MakeChecks.laidMetH_plain _ _ _ (by kernel_rfl)]; exact laidMet_laidAll _ (by kernel_rfl) (by kernel_rfl))) ?_
  intro W base args ds gs before hval0 hW _ _ _ _
  have hval : ∀ (j : Nat) t v, Tryz.f15.params[j]? = some t → args[j]? = some v → Value.okWide Tryz.prog W .any base t v := hval0
  have hW' := hW
  obtain ⟨p, q, hA0, hV, rfl, _, _⟩ := hW
  have hA : DataW.TrodAll enc Tryz.prog W 0 (fun _ => true) true Tryz.f15.params.toList args.toList ds p := hA0
  rw [Tryz.params15] at hA hval
  obtain ⟨v0, v1, v2, v3, v4, v5, d0, d1, d2, d3, d4, d5, p0, p1, p2, p3, p4, p5, rfl, rfl, rfl, h0, h1, h2, h3, h4, h5⟩ := trodAll_six hA
  obtain ⟨rfl, rfl⟩ := trodVars_none hV
  obtain ⟨e0, u0, r0⟩ := vr_Int (hval 0 25 v0 rfl rfl) h0
  obtain ⟨e1, u1, r1⟩ := vr_Int (hval 1 25 v1 rfl rfl) h1
  obtain ⟨n2, l2, m2, r2⟩ := vr_int (hval 2 3 v2 rfl rfl) h2
  obtain ⟨b3, r3⟩ := vr_bool (hval 3 4 v3 rfl rfl) h3
  obtain ⟨n4, l4, m4, r4⟩ := vr_int (hval 4 3 v4 rfl rfl) h4
  obtain ⟨n5, l5, m5, r5⟩ := vr_int (hval 5 3 v5 rfl rfl) h5
  refine (law_calls (vs := [v0, v1, v2, v3, v4, v5]) (Zow e0 e1 u0 u1 n2 b3 n4 n5 l5 m5) (by simp only [VRs]; exact ⟨v0, [v1, v2, v3, v4, v5], rfl, r0, ⟨v1, [v2, v3, v4, v5], rfl, r1, ⟨v2, [v3, v4, v5], rfl, r2, ⟨v3, [v4, v5], rfl, r3, ⟨v4, [v5], rfl, r4, ⟨v5, [], rfl, r5, rfl⟩⟩⟩⟩⟩⟩)).mono fun e W' ⟨he, hb⟩ => ?_
  subst he
  exact ⟨_, rfl, law_post rfl hW' rfl (by kernel_rfl) (by rw [Tryz.params15]; exact wholeBits_types) hb⟩
end Go.Proofs.YtjohcjagbodicaaGreatDoor
