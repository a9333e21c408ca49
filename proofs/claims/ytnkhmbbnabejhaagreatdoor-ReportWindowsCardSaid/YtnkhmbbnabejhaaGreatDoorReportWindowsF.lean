/-
  ReportWindows: from the walk to the row and its card.
-/
import Derived.Test.YtnkhmbbnabejhaaGreatDoorLawR
import Derived.Test.YtnkhmbbnabejhaaGreatDoorRXU
import Derived.ProofKit
namespace Go.Proofs.YtnkhmbbnabejhaaGreatDoor
open Go Go.LK Go.ChangeShapes Go.WideShapes Go.ChangeAt Go.RowKit

theorem ints47 {fs : Array Field} (h : Tryz.prog.underlying 47 = some (.struct fs)) : fs.size = 7 ∧ (∀ (j : Nat) (q : Field), fs[j]? = some q → Tryz.prog.underlying q.type = some (.int .i64)) := by
  rw [Tryz.underlying47] at h
  cases h
  refine ⟨rfl, fun j q hq => ?_⟩
  match j with
  | 0 => cases hq; exact Tryz.underlying3
  | 1 => cases hq; exact Tryz.underlying3
  | 2 => cases hq; exact Tryz.underlying3
  | 3 => cases hq; exact Tryz.underlying3
  | 4 => cases hq; exact Tryz.underlying3
  | 5 => cases hq; exact Tryz.underlying3
  | 6 => cases hq; exact Tryz.underlying3
  | j + 7 => simp at hq
set_option maxRecDepth 100000 in
theorem reportWindows_lifted (os : Os) (started : os.Started) (H : Type) (enc : TypeId × Value → H) :
    ReturnsInHanded {} Tryz.checked os 4 .any (fun w args => (Rows.reportWindowsSpec.pre enc Tryz.prog Tryz.f4 [] false w args ∧ laidMetH Tryz.prog laidL w) ∧ sizedMet enc Tryz.prog Tryz.f4 (OpenSpec.ofChange Rows.reportWindowsSpec) false w args) (Rows.reportWindowsSpec.post enc Tryz.prog Tryz.f4 false true false false) := by
  refine law_and_shaped (C := Tryz.checked) (X := fun w _ => laidMetH Tryz.prog laidL w) (fun _ _ _ hh h => h.of_heap hh) Tryz.own started (by kernel_rfl) Tryz.func4
    (ChangeSpec.witness_shaped (enc := enc) (C := Tryz.checked) (os := os) (X := fun w _ => laidMetH Tryz.prog laidL w) false (World.laidAll Tryz.prog os laidL) #[.slice none 0 0, .agg #[.int .i64 0, .int .i64 0, .int .i64 0], .agg #[.slice none 0 0, .slice none 0 0]] 8 (World.laidAll_os _ _ _) (World.shaped_of_ZipB (by kernel_rfl) (by kernel_rfl)) (by kernel_rfl) (by kernel_rfl) (by kernel_rfl) (door_met os _)) ?_
  intro W base args ds gs before hval0 hW hL hsh
  have hval : ∀ (j : Nat) t v, Tryz.f4.params[j]? = some t → args[j]? = some v → Value.okWide Tryz.prog W .any base t v := hval0
  have hW' := hW
  obtain ⟨p, q, hA0, hV, rfl, hfz, hnd⟩ := hW
  have hA : DataW.TrodAll enc Tryz.prog W 0 (fun _ => true) true Tryz.f4.params.toList args.toList ds p := hA0
  rw [Tryz.params4] at hA hval
  obtain ⟨v0, v1, v2, d0, d1, d2, p0, p1, p2, rfl, rfl, rfl, h0, h1, h2⟩ := trodAll_three hA
  obtain ⟨rfl, rfl⟩ := trodVars_none hV
  have hlib := of_laid hsh hL
  clear hfz hnd hA0 hval0
  obtain ⟨l0, hl0, hw0⟩ := open_recs Ev.cells Ev.of 7 (by decide) Tryz.underlying32 Tryz.underlying47 (by kernel_rfl) (by kernel_rfl) (ints47 Tryz.underlying47).1 (ints47 Tryz.underlying47).2 Ev.of_cells (hval 0 32 v0 rfl rfl) h0
  obtain ⟨x0_1, x1_1, x2_1, hc1, hI_1⟩ := open_T33 (Rdb.of h1)
  have hv1 : v1 = .agg #[.int .i64 x0_1, .int .i64 x1_1, .int .i64 x2_1] := by
    obtain ⟨c_, rfl, _⟩ := okWide_array Tryz.underlying33 (hval 1 33 v1 rfl rfl)
    exact agg_of hc1
  subst hv1
  obtain ⟨v0_2, l0_2, v1_2, l1_2, hc2, E0_2, q0_2, E1_2, q1_2⟩ := open_T35 (Rdb.of h2)
  have hv2 : v2 = .agg #[v0_2, v1_2] := by
    obtain ⟨c_, rfl, _⟩ := okWide_array Tryz.underlying35 (hval 2 35 v2 rfl rfl)
    exact agg_of hc2
  subst hv2
  refine (Tri.law (law45_reportWindows v0 l0 x0_1 x1_1 x2_1 v0_2 v1_2 l0_2 l1_2 q0_2 q1_2) W (by intro A hA; simp only [List.mem_cons, List.not_mem_nil, or_false] at hA; rcases hA with rfl | rfl | rfl | rfl <;> first | exact hlib | exact hl0 | exact E0_2 | exact E1_2)).mono fun e W' ⟨he, hb⟩ => ?_
  subst he
  exact ⟨_, rfl, post_true Tryz.laidOut hW' rfl rfl rfl Tryz.underlying4 (by rw [Tryz.params4]; exact List.forall_mem_cons.2 ⟨⟨by kernel_rfl, of_decide_eq_true (by kernel_rfl)⟩, List.forall_mem_cons.2 ⟨⟨by kernel_rfl, of_decide_eq_true (by kernel_rfl)⟩, List.forall_mem_cons.2 ⟨⟨by kernel_rfl, of_decide_eq_true (by kernel_rfl)⟩, List.forall_mem_nil _⟩⟩⟩) hb⟩

theorem reportWindows_holds : Rows.ReportWindowsSaid :=
  OpenClaim.holds_of_wide 4 Tryz.f4 rfl rfl rfl rfl rfl rfl rfl ⟨rfl, rfl, rfl, rfl, rfl⟩ rfl rfl rfl rfl rfl (by kernel_rfl) Tryz.func4 (by kernel_rfl)
    (of_decide_eq_true (by kernel_rfl)) (by unfold Func.isWrapper; first | (rw [if_pos (by decide +kernel)]; kernel_rfl) | (rw [if_neg (by decide +kernel)]; exact ⟨rfl, rfl⟩))
    (fun os started H enc _ => reportWindows_lifted os started H enc)

theorem reportWindows_card : Rows.ReportWindowsCardSaid :=
  Claim7.holds_tied_plain_at .later [] [.data, .data, .data, .sentinel, .sentinel] true (true, "516b654326a92288f701a84ce9001f824d42408cd503249d319e49a24adfbec2") true
    reportWindows_holds (fun _ h => by cases h) (by kernel_rfl) (fun _ h => by cases h) reportWindows_row_tie rfl ⟨rfl, rfl⟩ (by kernel_rfl) rfl
    (fun f fn hf hfn => by
      obtain rfl : f = 4 := Option.some.inj ((show Tryz.prog.funcNamed "lockkeeper/lockkeeperlaw45.ReportWindows" = some 4 by kernel_rfl).symm.trans hf) |>.symm
      obtain rfl : fn = Tryz.f4 := (Option.some.inj (Tryz.func4.symm.trans hfn)).symm
      exact ⟨by kernel_rfl, fun j t ht => by
        rw [Tryz.params4] at ht
        have hm : t ∈ [32, 33, 35] := by simpa using Array.mem_of_getElem? ht
        have hall : ([32, 33, 35].all fun u => !Tryz.prog.wantsStandIn u) = true := by kernel_rfl
        exact (show Tryz.prog.wantsStandIn t = false by simpa using List.all_eq_true.1 hall t hm)⟩)
    (by kernel_rfl)

end Go.Proofs.YtnkhmbbnabejhaaGreatDoor
