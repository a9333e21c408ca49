/-
  SiteTells: from the walk to the row and its card.
-/
import Derived.Test.YtnhfgnnpbipcnaaGreatDoorLawS
import Derived.Test.YtnhfgnnpbipcnaaGreatDoorSI16
import Derived.ProofKit
namespace Go.Proofs.YtnhfgnnpbipcnaaGreatDoor
open Go Go.LK Go.ChangeShapes Go.WideShapes Go.ChangeAt Go.RowKit

set_option maxRecDepth 100000 in
theorem siteTells_lifted (os : Os) (started : os.Started) (H : Type) (enc : TypeId × Value → H) :
    ReturnsInHanded {} Tryz.checked os 3 .any (fun w args => (Rows.siteTellsSpec.pre enc Tryz.prog Tryz.f3 [] false w args ∧ laidMetH Tryz.prog laidL w) ∧ sizedMet enc Tryz.prog Tryz.f3 (OpenSpec.ofChange Rows.siteTellsSpec) false w args) (Rows.siteTellsSpec.post enc Tryz.prog Tryz.f3 false true false false) := by
  refine law_and_shaped (C := Tryz.checked) (X := fun w _ => laidMetH Tryz.prog laidL w) (fun _ _ _ hh h => h.of_heap hh) Tryz.own started (by kernel_rfl) Tryz.func3
    (ChangeSpec.witness_shaped (enc := enc) (C := Tryz.checked) (os := os) (X := fun w _ => laidMetH Tryz.prog laidL w) false (World.laidAll Tryz.prog os laidL) #[.agg #[.int .i64 0, .int .i64 0, .int .i64 0, .int .u64 0, .slice none 0 0], .agg #[.int .i64 0, .int .i64 0, .int .i64 0, .int .u64 0, .slice none 0 0], .int .i64 0] 8 (World.laidAll_os _ _ _) (World.shaped_of_ZipB (by kernel_rfl) (by kernel_rfl)) (by kernel_rfl) (by kernel_rfl) (by kernel_rfl) (door_met os _)) ?_
  intro W base args ds gs before hval0 hW hL hsh
  have hval : ∀ (j : Nat) t v, Tryz.f3.params[j]? = some t → args[j]? = some v → Value.okWide Tryz.prog W .any base t v := hval0
  have hW' := hW
  obtain ⟨p, q, hA0, hV, rfl, hfz, hnd⟩ := hW
  have hA : DataW.TrodAll enc Tryz.prog W 0 (fun _ => true) true Tryz.f3.params.toList args.toList ds p := hA0
  rw [Tryz.params3] at hA hval
  obtain ⟨v0, v1, v2, d0, d1, d2, p0, p1, p2, rfl, rfl, rfl, h0, h1, h2⟩ := trodAll_three hA
  obtain ⟨rfl, rfl⟩ := trodVars_none hV
  have hlib := of_laid hsh hL
  have hm0 := of_lockkeeper_dec_digits hsh hL
  have hm1 := of_lockkeeper_knob_names hsh hL
  clear hfz hnd hA0 hval0
  obtain ⟨x0_0, x1_0, x2_0, x3_0, v4_0, l4_0, hc0, hI_0, b3_0, E4_0, q4_0⟩ := open_T25 (Rdb.of h0)
  have hv0 : v0 = .agg #[.int .i64 x0_0, .int .i64 x1_0, .int .i64 x2_0, .int .u64 (x3_0 : Int), v4_0] := by
    obtain ⟨c_, rfl, _⟩ := okWide_struct Tryz.underlying25 (hval 0 25 v0 rfl rfl)
    exact agg_of hc0
  subst hv0
  obtain ⟨x0_1, x1_1, x2_1, x3_1, v4_1, l4_1, hc1, hI_1, b3_1, E4_1, q4_1⟩ := open_T25 (Rdb.of h1)
  have hv1 : v1 = .agg #[.int .i64 x0_1, .int .i64 x1_1, .int .i64 x2_1, .int .u64 (x3_1 : Int), v4_1] := by
    obtain ⟨c_, rfl, _⟩ := okWide_struct Tryz.underlying25 (hval 1 25 v1 rfl rfl)
    exact agg_of hc1
  subst hv1
  obtain ⟨x2, rfl, rfl, rfl, wx2⟩ := open_int Tryz.underlying3 (hval 2 3 v2 rfl rfl) h2
  refine (Tri.law (law30_siteTells x0_0 x1_0 x2_0 x3_0 v4_0 l4_0 x0_1 x1_1 x2_1 x3_1 v4_1 l4_1 x2 (fun s_ hs_ => (q4_0 s_ hs_).1) hI_0 b3_0 b3_1) W (by intro A hA; simp only [List.mem_cons, List.not_mem_nil, or_false] at hA; rcases hA with rfl | rfl | rfl | rfl | rfl | rfl | rfl <;> first | exact hlib | exact hm0 | exact hm1 | exact E4_0 | exact E4_1 | exact (fun A hA => by obtain ⟨x_, hx_, rfl⟩ := List.mem_map.1 hA; exact (q4_0 x_ hx_).2) | exact (fun A hA => by obtain ⟨x_, hx_, rfl⟩ := List.mem_map.1 hA; exact (q4_1 x_ hx_).2))).mono fun e W' ⟨he, hb⟩ => ?_
  subst he
  exact ⟨_, rfl, post_true Tryz.laidOut hW' rfl rfl rfl Tryz.underlying4 (by rw [Tryz.params3]; exact List.forall_mem_cons.2 ⟨⟨by kernel_rfl, of_decide_eq_true (by kernel_rfl)⟩, List.forall_mem_cons.2 ⟨⟨by kernel_rfl, of_decide_eq_true (by kernel_rfl)⟩, List.forall_mem_cons.2 ⟨⟨by kernel_rfl, of_decide_eq_true (by kernel_rfl)⟩, List.forall_mem_nil _⟩⟩⟩) hb⟩

theorem siteTells_holds : Rows.SiteTellsSaid :=
  OpenClaim.holds_of_wide 3 Tryz.f3 rfl rfl rfl rfl rfl rfl rfl ⟨rfl, rfl, rfl, rfl, rfl⟩ rfl rfl rfl rfl rfl (by kernel_rfl) Tryz.func3 (by kernel_rfl)
    (of_decide_eq_true (by kernel_rfl)) (by unfold Func.isWrapper; first | (rw [if_pos (by decide +kernel)]; kernel_rfl) | (rw [if_neg (by decide +kernel)]; exact ⟨rfl, rfl⟩))
    (fun os started H enc _ => siteTells_lifted os started H enc)

theorem siteTells_card : Rows.SiteTellsCardSaid :=
  Claim7.holds_tied_plain_at .later [] [.data, .data, .data, .sentinel, .sentinel, .data, .widerDeep] true (true, "5621ebf4a47a9584ba90f621124e6d6631329c0e558425b86cb85ed25745e1a6") true
    siteTells_holds (fun _ h => by cases h) (by kernel_rfl) (fun _ h => by cases h) siteTells_row_tie rfl ⟨rfl, rfl⟩ (by kernel_rfl) rfl
    (fun f fn hf hfn => by
      obtain rfl : f = 3 := Option.some.inj ((show Tryz.prog.funcNamed "lockkeeper/lockkeeperlaw30.SiteTells" = some 3 by kernel_rfl).symm.trans hf) |>.symm
      obtain rfl : fn = Tryz.f3 := (Option.some.inj (Tryz.func3.symm.trans hfn)).symm
      exact ⟨by kernel_rfl, fun j t ht => by
        rw [Tryz.params3] at ht
        have hm : t ∈ [25, 25, 3] := by simpa using Array.mem_of_getElem? ht
        have hall : ([25, 25, 3].all fun u => !Tryz.prog.wantsStandIn u) = true := by kernel_rfl
        exact (show Tryz.prog.wantsStandIn t = false by simpa using List.all_eq_true.1 hall t hm)⟩)
    (by kernel_rfl)

end Go.Proofs.YtnhfgnnpbipcnaaGreatDoor
