/-
  ReportReads: from the walk to the row and its card.
-/
import Derived.Test.YtilcmkegbmppnaaDoorLawR
import Derived.Test.YtilcmkegbmppnaaDoorRX5
import Derived.ProofKit
namespace Go.Proofs.YtilcmkegbmppnaaDoor
open Go Go.LK Go.ChangeShapes Go.WideShapes Go.ChangeAt Go.RowKit

theorem ints83 {fs : Array Field} (h : Tryd.prog.underlying 83 = some (.struct fs)) : fs.size = 7 ∧ (∀ (j : Nat) (q : Field), fs[j]? = some q → Tryd.prog.underlying q.type = some (.int .i64)) := by
  rw [Tryd.underlying83] at h
  cases h
  refine ⟨rfl, fun j q hq => ?_⟩
  match j with
  | 0 => cases hq; exact Tryd.underlying3
  | 1 => cases hq; exact Tryd.underlying3
  | 2 => cases hq; exact Tryd.underlying3
  | 3 => cases hq; exact Tryd.underlying3
  | 4 => cases hq; exact Tryd.underlying3
  | 5 => cases hq; exact Tryd.underlying3
  | 6 => cases hq; exact Tryd.underlying3
  | j + 7 => simp at hq
set_option maxRecDepth 100000 in
theorem reportReads_lifted (os : Os) (started : os.Started) (H : Type) (enc : TypeId × Value → H) :
    ReturnsInHanded {} Tryd.checked os 6 .any (fun w args => (Rows.reportReadsSpec.pre enc Tryd.prog Tryd.f6 [] false w args ∧ laidMetH Tryd.prog laidL w) ∧ sizedMet enc Tryd.prog Tryd.f6 (OpenSpec.ofChange Rows.reportReadsSpec) false w args) (Rows.reportReadsSpec.post enc Tryd.prog Tryd.f6 false true false false) := by
  refine law_and_shaped (C := Tryd.checked) (X := fun w _ => laidMetH Tryd.prog laidL w) (fun _ _ _ hh h => h.of_heap hh) Tryd.own started (by kernel_rfl) Tryd.func6
    (ChangeSpec.witness_shaped (enc := enc) (C := Tryd.checked) (os := os) (X := fun w _ => laidMetH Tryd.prog laidL w) false (World.laidAll Tryd.prog os laidL) #[.slice none 0 0, .int .i64 0, .int .i64 0] 8 (World.laidAll_os _ _ _) (World.shaped_of_ZipB (by kernel_rfl) (by kernel_rfl)) (by kernel_rfl) (by kernel_rfl) (by kernel_rfl) (door_met os _)) ?_
  intro W base args ds gs before hval0 hW hL hsh
  have hval : ∀ (j : Nat) t v, Tryd.f6.params[j]? = some t → args[j]? = some v → Value.okWide Tryd.prog W .any base t v := hval0
  have hW' := hW
  obtain ⟨p, q, hA0, hV, rfl, hfz, hnd⟩ := hW
  have hA : DataW.TrodAll enc Tryd.prog W 0 (fun _ => true) true Tryd.f6.params.toList args.toList ds p := hA0
  rw [Tryd.params6] at hA hval
  obtain ⟨v0, v1, v2, d0, d1, d2, p0, p1, p2, rfl, rfl, rfl, h0, h1, h2⟩ := trodAll_three hA
  obtain ⟨rfl, rfl⟩ := trodVars_none hV
  have hlib := of_laid hsh hL
  clear hfz hnd hA0 hval0
  obtain ⟨l0, hl0, hw0⟩ := open_recs Ev.cells Ev.of 7 (by decide) Tryd.underlying57 Tryd.underlying83 (by kernel_rfl) (by kernel_rfl) (ints83 Tryd.underlying83).1 (ints83 Tryd.underlying83).2 Ev.of_cells (hval 0 57 v0 rfl rfl) h0
  obtain ⟨x1, rfl, rfl, rfl, wx1⟩ := open_int Tryd.underlying3 (hval 1 3 v1 rfl rfl) h1
  obtain ⟨x2, rfl, rfl, rfl, wx2⟩ := open_int Tryd.underlying3 (hval 2 3 v2 rfl rfl) h2
  refine (Tri.law (law45_reportReads v0 l0 x1 x2) W (by intro A hA; simp only [List.mem_cons, List.not_mem_nil, or_false] at hA; rcases hA with rfl | rfl <;> first | exact hlib | exact hl0)).mono fun e W' ⟨he, hb⟩ => ?_
  subst he
  exact ⟨_, rfl, post_true Tryd.laidOut hW' rfl rfl rfl Tryd.underlying4 (by rw [Tryd.params6]; exact List.forall_mem_cons.2 ⟨⟨by kernel_rfl, of_decide_eq_true (by kernel_rfl)⟩, List.forall_mem_cons.2 ⟨⟨by kernel_rfl, of_decide_eq_true (by kernel_rfl)⟩, List.forall_mem_cons.2 ⟨⟨by kernel_rfl, of_decide_eq_true (by kernel_rfl)⟩, List.forall_mem_nil _⟩⟩⟩) hb⟩

theorem reportReads_holds : Rows.ReportReadsSaid :=
  OpenClaim.holds_of_wide 6 Tryd.f6 rfl rfl rfl rfl rfl rfl rfl ⟨rfl, rfl, rfl, rfl, rfl⟩ rfl rfl rfl rfl rfl (by kernel_rfl) Tryd.func6 (by kernel_rfl)
    (of_decide_eq_true (by kernel_rfl)) (by unfold Func.isWrapper; first | (rw [if_pos (by decide +kernel)]; kernel_rfl) | (rw [if_neg (by decide +kernel)]; exact ⟨rfl, rfl⟩))
    (fun os started H enc _ => reportReads_lifted os started H enc)

theorem reportReads_card : Rows.ReportReadsCardSaid :=
  Claim7.holds_tied_plain_at .later [] [.data, .data, .data, .sentinel, .sentinel] true (true, "fe321d12fa8b7513dde69faf00d862e3d3e2c73f82f1c294d6617fdcf01de73c") true
    reportReads_holds (fun _ h => by cases h) (by kernel_rfl) (fun _ h => by cases h) reportReads_row_tie rfl ⟨rfl, rfl⟩ (by kernel_rfl) rfl
    (fun f fn hf hfn => by
      obtain rfl : f = 6 := Option.some.inj ((show Tryd.prog.funcNamed "lockkeeper/lockkeeperlaw45.ReportReads" = some 6 by kernel_rfl).symm.trans hf) |>.symm
      obtain rfl : fn = Tryd.f6 := (Option.some.inj (Tryd.func6.symm.trans hfn)).symm
      exact ⟨by kernel_rfl, fun j t ht => by
        rw [Tryd.params6] at ht
        have hm : t ∈ [57, 3, 3] := by simpa using Array.mem_of_getElem? ht
        have hall : ([57, 3, 3].all fun u => !Tryd.prog.wantsStandIn u) = true := by kernel_rfl
        exact (show Tryd.prog.wantsStandIn t = false by simpa using List.all_eq_true.1 hall t hm)⟩)
    (by kernel_rfl)

end Go.Proofs.YtilcmkegbmppnaaDoor
