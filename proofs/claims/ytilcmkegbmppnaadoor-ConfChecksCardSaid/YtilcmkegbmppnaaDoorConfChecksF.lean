/-
  ConfChecks: from the walk to the row and its card.
-/
import Derived.Test.YtilcmkegbmppnaaDoorLawC
import Derived.Test.YtilcmkegbmppnaaDoorCX9
import Derived.ProofKit
namespace Go.Proofs.YtilcmkegbmppnaaDoor
open Go Go.LK Go.ChangeShapes Go.WideShapes Go.ChangeAt Go.RowKit

set_option maxRecDepth 100000 in
theorem confChecks_lifted (os : Os) (started : os.Started) (H : Type) (enc : TypeId × Value → H) :
    ReturnsInHanded {} Tryd.checked os 5 .any (fun w args => (Rows.confChecksSpec.pre enc Tryd.prog Tryd.f5 [] false w args ∧ laidMetH Tryd.prog laidL w) ∧ sizedMet enc Tryd.prog Tryd.f5 (OpenSpec.ofChange Rows.confChecksSpec) false w args) (Rows.confChecksSpec.post enc Tryd.prog Tryd.f5 false true false false) := by
  refine law_and_shaped (C := Tryd.checked) (X := fun w _ => laidMetH Tryd.prog laidL w) (fun _ _ _ hh h => h.of_heap hh) Tryd.own started (by kernel_rfl) Tryd.func5
    (ChangeSpec.witness_shaped (enc := enc) (C := Tryd.checked) (os := os) (X := fun w _ => laidMetH Tryd.prog laidL w) false (World.laidAll Tryd.prog os laidL) #[.agg #[.int .i64 0, .int .i64 0, .int .i64 0, .int .i64 0, .int .i64 0, .int .i64 0, .int .i64 0, .int .i64 0, .int .i64 0, .int .i64 0, .int .i64 0, .int .i64 0, .int .i64 0, .slice none 0 0], .agg #[.int .i64 0, .int .i64 0, .int .i64 0, .int .i64 0, .int .i64 0, .int .i64 0, .int .i64 0, .int .i64 0, .int .i64 0, .int .i64 0, .int .i64 0, .int .i64 0, .int .i64 0, .slice none 0 0], .agg #[.int .i64 0, .int .i64 0, .int .i64 0]] 8 (World.laidAll_os _ _ _) (World.shaped_of_ZipB (by kernel_rfl) (by kernel_rfl)) (by kernel_rfl) (by kernel_rfl) (by kernel_rfl) (door_met os _)) ?_
  intro W base args ds gs before hval0 hW hL hsh
  have hval : ∀ (j : Nat) t v, Tryd.f5.params[j]? = some t → args[j]? = some v → Value.okWide Tryd.prog W .any base t v := hval0
  have hW' := hW
  obtain ⟨p, q, hA0, hV, rfl, hfz, hnd⟩ := hW
  have hA : DataW.TrodAll enc Tryd.prog W 0 (fun _ => true) true Tryd.f5.params.toList args.toList ds p := hA0
  rw [Tryd.params5] at hA hval
  obtain ⟨v0, v1, v2, d0, d1, d2, p0, p1, p2, rfl, rfl, rfl, h0, h1, h2⟩ := trodAll_three hA
  obtain ⟨rfl, rfl⟩ := trodVars_none hV
  have hlib := of_laid hsh hL
  have hm0 := of_lockkeeper_knob_names hsh hL
  clear hfz hnd hA0 hval0
  obtain ⟨x0_0, x1_0, x2_0, x3_0, x4_0, x5_0, x6_0, x7_0, x8_0, x9_0, x10_0, x11_0, x12_0, v13_0, l13_0, hc0, hI_0, E13_0, q13_0⟩ := open_T26 (Rdb.of h0)
  have hv0 : v0 = .agg #[.int .i64 x0_0, .int .i64 x1_0, .int .i64 x2_0, .int .i64 x3_0, .int .i64 x4_0, .int .i64 x5_0, .int .i64 x6_0, .int .i64 x7_0, .int .i64 x8_0, .int .i64 x9_0, .int .i64 x10_0, .int .i64 x11_0, .int .i64 x12_0, v13_0] := by
    obtain ⟨c_, rfl, _⟩ := okWide_struct Tryd.underlying26 (hval 0 26 v0 rfl rfl)
    exact agg_of hc0
  subst hv0
  obtain ⟨x0_1, x1_1, x2_1, x3_1, x4_1, x5_1, x6_1, x7_1, x8_1, x9_1, x10_1, x11_1, x12_1, v13_1, l13_1, hc1, hI_1, E13_1, q13_1⟩ := open_T26 (Rdb.of h1)
  have hv1 : v1 = .agg #[.int .i64 x0_1, .int .i64 x1_1, .int .i64 x2_1, .int .i64 x3_1, .int .i64 x4_1, .int .i64 x5_1, .int .i64 x6_1, .int .i64 x7_1, .int .i64 x8_1, .int .i64 x9_1, .int .i64 x10_1, .int .i64 x11_1, .int .i64 x12_1, v13_1] := by
    obtain ⟨c_, rfl, _⟩ := okWide_struct Tryd.underlying26 (hval 1 26 v1 rfl rfl)
    exact agg_of hc1
  subst hv1
  obtain ⟨x0_2, x1_2, x2_2, hc2, hI_2⟩ := open_T51 (Rdb.of h2)
  have hv2 : v2 = .agg #[.int .i64 x0_2, .int .i64 x1_2, .int .i64 x2_2] := by
    obtain ⟨c_, rfl, _⟩ := okWide_struct Tryd.underlying51 (hval 2 51 v2 rfl rfl)
    exact agg_of hc2
  subst hv2
  refine (Tri.law (law28_confChecks x0_0 x1_0 x2_0 x3_0 x4_0 x5_0 x6_0 x7_0 x8_0 x9_0 x10_0 x11_0 x12_0 x0_1 x1_1 x2_1 x3_1 x4_1 x5_1 x6_1 x7_1 x8_1 x9_1 x10_1 x11_1 x12_1 v13_0 v13_1 l13_0 l13_1 x0_2 x1_2 x2_2) W (by intro A hA; simp only [List.mem_cons, List.not_mem_nil, or_false] at hA; rcases hA with rfl | rfl | rfl | rfl <;> first | exact hlib | exact hm0 | exact E13_0 | exact E13_1)).mono fun e W' ⟨he, hb⟩ => ?_
  subst he
  exact ⟨_, rfl, post_true Tryd.laidOut hW' rfl rfl rfl Tryd.underlying4 (by rw [Tryd.params5]; exact List.forall_mem_cons.2 ⟨⟨by kernel_rfl, of_decide_eq_true (by kernel_rfl)⟩, List.forall_mem_cons.2 ⟨⟨by kernel_rfl, of_decide_eq_true (by kernel_rfl)⟩, List.forall_mem_cons.2 ⟨⟨by kernel_rfl, of_decide_eq_true (by kernel_rfl)⟩, List.forall_mem_nil _⟩⟩⟩) hb⟩

theorem confChecks_holds : Rows.ConfChecksSaid :=
  OpenClaim.holds_of_wide 5 Tryd.f5 rfl rfl rfl rfl rfl rfl rfl ⟨rfl, rfl, rfl, rfl, rfl⟩ rfl rfl rfl rfl rfl (by kernel_rfl) Tryd.func5 (by kernel_rfl)
    (of_decide_eq_true (by kernel_rfl)) (by unfold Func.isWrapper; first | (rw [if_pos (by decide +kernel)]; kernel_rfl) | (rw [if_neg (by decide +kernel)]; exact ⟨rfl, rfl⟩))
    (fun os started H enc _ => confChecks_lifted os started H enc)

theorem confChecks_card : Rows.ConfChecksCardSaid :=
  Claim7.holds_tied_plain_at .later [] [.data, .data, .data, .sentinel, .sentinel, .widerDeep] true (true, "fe321d12fa8b7513dde69faf00d862e3d3e2c73f82f1c294d6617fdcf01de73c") true
    confChecks_holds (fun _ h => by cases h) (by kernel_rfl) (fun _ h => by cases h) confChecks_row_tie rfl ⟨rfl, rfl⟩ (by kernel_rfl) rfl
    (fun f fn hf hfn => by
      obtain rfl : f = 5 := Option.some.inj ((show Tryd.prog.funcNamed "lockkeeper/lockkeeperlaw28.ConfChecks" = some 5 by kernel_rfl).symm.trans hf) |>.symm
      obtain rfl : fn = Tryd.f5 := (Option.some.inj (Tryd.func5.symm.trans hfn)).symm
      exact ⟨by kernel_rfl, fun j t ht => by
        rw [Tryd.params5] at ht
        have hm : t ∈ [26, 26, 51] := by simpa using Array.mem_of_getElem? ht
        have hall : ([26, 26, 51].all fun u => !Tryd.prog.wantsStandIn u) = true := by kernel_rfl
        exact (show Tryd.prog.wantsStandIn t = false by simpa using List.all_eq_true.1 hall t hm)⟩)
    (by kernel_rfl)

end Go.Proofs.YtilcmkegbmppnaaDoor
