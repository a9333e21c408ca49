/-
  JobOnce: from the walk to the row.
-/
import Derived.Test.YtnkhmbbnabejhaaLawP
import Derived.Test.YtnkhmbbnabejhaaJX5
import Derived.Test.YtnkhmbbnabejhaaRows
import Derived.ProofKit
namespace Go.Proofs.Ytnkhmbbnabejhaa
open Go Go.LK Go.ChangeShapes Go.WideShapes Go.ChangeAt Go.RowKit

theorem Try.own : ownKnob Try.prog.godebug = none := by kernel_rfl
theorem Try.laidOut : laidOutB Try.prog = true := by kernel_rfl
theorem open_T23 {H : Type} {enc : TypeId × Value → H} {W : World} {cs : List Value} (h : Rdb enc Try.prog W 23 cs) : ∃ (x0 : Int) (x1 : Int) (x2 : Int) (x3 : Int) (x4 : Int) (x5 : Int) (x6 : Int), cs = [.int .i64 x0, .int .i64 x1, .int .i64 x2, .int .i64 x3, .int .i64 x4, .int .i64 x5, .int .i64 x6] ∧ (LP.I64s [x0, x1, x2, x3, x4, x5, x6]) := by
  have h0 : Rdb enc Try.prog W 3 ((cs.drop 0).take 1) := by
    have h_ : Rdb enc Try.prog W 3 ((cs.drop 0).take (Try.prog.cellsOf 3)) := by
      exact h.field Try.underlying23 0 _ rfl
    rwa [show Try.prog.cellsOf 3 = 1 by kernel_rfl] at h_
  obtain ⟨x0, e0, b0⟩ := h0.int Try.underlying3
  have h1 : Rdb enc Try.prog W 3 ((cs.drop 1).take 1) := by
    have h_ : Rdb enc Try.prog W 3 ((cs.drop 1).take (Try.prog.cellsOf 3)) := by
      exact h.field Try.underlying23 1 _ rfl
    rwa [show Try.prog.cellsOf 3 = 1 by kernel_rfl] at h_
  obtain ⟨x1, e1, b1⟩ := h1.int Try.underlying3
  have h2 : Rdb enc Try.prog W 3 ((cs.drop 2).take 1) := by
    have h_ : Rdb enc Try.prog W 3 ((cs.drop 2).take (Try.prog.cellsOf 3)) := by
      exact h.field Try.underlying23 2 _ rfl
    rwa [show Try.prog.cellsOf 3 = 1 by kernel_rfl] at h_
  obtain ⟨x2, e2, b2⟩ := h2.int Try.underlying3
  have h3 : Rdb enc Try.prog W 3 ((cs.drop 3).take 1) := by
    have h_ : Rdb enc Try.prog W 3 ((cs.drop 3).take (Try.prog.cellsOf 3)) := by
      exact h.field Try.underlying23 3 _ rfl
    rwa [show Try.prog.cellsOf 3 = 1 by kernel_rfl] at h_
  obtain ⟨x3, e3, b3⟩ := h3.int Try.underlying3
  have h4 : Rdb enc Try.prog W 3 ((cs.drop 4).take 1) := by
    have h_ : Rdb enc Try.prog W 3 ((cs.drop 4).take (Try.prog.cellsOf 3)) := by
      exact h.field Try.underlying23 4 _ rfl
    rwa [show Try.prog.cellsOf 3 = 1 by kernel_rfl] at h_
  obtain ⟨x4, e4, b4⟩ := h4.int Try.underlying3
  have h5 : Rdb enc Try.prog W 3 ((cs.drop 5).take 1) := by
    have h_ : Rdb enc Try.prog W 3 ((cs.drop 5).take (Try.prog.cellsOf 3)) := by
      exact h.field Try.underlying23 5 _ rfl
    rwa [show Try.prog.cellsOf 3 = 1 by kernel_rfl] at h_
  obtain ⟨x5, e5, b5⟩ := h5.int Try.underlying3
  have h6 : Rdb enc Try.prog W 3 ((cs.drop 6).take 1) := by
    have h_ : Rdb enc Try.prog W 3 ((cs.drop 6).take (Try.prog.cellsOf 3)) := by
      exact h.field Try.underlying23 6 _ rfl
    rwa [show Try.prog.cellsOf 3 = 1 by kernel_rfl] at h_
  obtain ⟨x6, e6, b6⟩ := h6.int Try.underlying3
  have hI : LP.I64s [x0, x1, x2, x3, x4, x5, x6] := by
    intro x hx
    simp only [List.mem_cons, List.not_mem_nil, or_false] at hx
    rcases hx with rfl | rfl | rfl | rfl | rfl | rfl | rfl <;> assumption
  have hc : cs = [.int .i64 x0, .int .i64 x1, .int .i64 x2, .int .i64 x3, .int .i64 x4, .int .i64 x5, .int .i64 x6] := (List.drop_zero (l := cs)).symm.trans (by rw [cut_next (m := 1) e0 rfl, cut_next (m := 2) e1 rfl, cut_next (m := 3) e2 rfl, cut_next (m := 4) e3 rfl, cut_next (m := 5) e4 rfl, cut_next (m := 6) e5 rfl, cut_next (m := 7) e6 rfl, cut_end (m := 7) (by rw [h.len Try.underlying23]; kernel_rfl)]; rfl)
  exact ⟨x0, x1, x2, x3, x4, x5, x6, hc, hI⟩
theorem open_T35 {H : Type} {enc : TypeId × Value → H} {W : World} {cs : List Value} (h : Rdb enc Try.prog W 35 cs) : ∃ (x0 : Int) (x1 : Int), cs = [.int .i64 x0, .int .i64 x1] ∧ (LP.I64s [x0, x1]) := by
  have h0 : Rdb enc Try.prog W 3 ((cs.drop 0).take 1) := by
    have h_ : Rdb enc Try.prog W 3 ((cs.drop 0).take (Try.prog.cellsOf 3)) := by
      exact h.field Try.underlying35 0 _ rfl
    rwa [show Try.prog.cellsOf 3 = 1 by kernel_rfl] at h_
  obtain ⟨x0, e0, b0⟩ := h0.int Try.underlying3
  have h1 : Rdb enc Try.prog W 3 ((cs.drop 1).take 1) := by
    have h_ : Rdb enc Try.prog W 3 ((cs.drop 1).take (Try.prog.cellsOf 3)) := by
      exact h.field Try.underlying35 1 _ rfl
    rwa [show Try.prog.cellsOf 3 = 1 by kernel_rfl] at h_
  obtain ⟨x1, e1, b1⟩ := h1.int Try.underlying3
  have hI : LP.I64s [x0, x1] := by
    intro x hx
    simp only [List.mem_cons, List.not_mem_nil, or_false] at hx
    rcases hx with rfl | rfl <;> assumption
  have hc : cs = [.int .i64 x0, .int .i64 x1] := (List.drop_zero (l := cs)).symm.trans (by rw [cut_next (m := 1) e0 rfl, cut_next (m := 2) e1 rfl, cut_end (m := 2) (by rw [h.len Try.underlying35]; kernel_rfl)]; rfl)
  exact ⟨x0, x1, hc, hI⟩
set_option maxRecDepth 100000 in
theorem jobOnce_lifted (os : Os) (started : os.Started) (H : Type) (enc : TypeId × Value → H) :
    ReturnsInHanded {} Try.checked os 3 .any (Rows.jobOnceSpec.pre6 enc Try.prog Try.f3 Rows.jobOnceRow.domain false) (Rows.jobOnceSpec.post enc Try.prog Try.f3 false true false false) := by
  refine returnsInHanded_of_change (C := Try.checked) Try.own started (by kernel_rfl) Try.func3
    (ChangeSpec.witness6 (enc := enc) (C := Try.checked) false ⟨#[], #[.agg #[.int .i64 0, .int .i64 0, .int .i64 0, .int .i64 0, .int .i64 0, .int .i64 0, .int .i64 0], .slice none 0 0, .slice none 0 0], []⟩ 8 (by kernel_rfl) (by kernel_rfl) (by kernel_rfl) (by kernel_rfl)) ?_
  intro W base args ds gs before hval0 hW _ _
  have hval : ∀ (j : Nat) t v, Try.f3.params[j]? = some t → args[j]? = some v → Value.okWide Try.prog W .any base t v := hval0
  have hW' := hW
  obtain ⟨p, q, hA0, hV, rfl, hfz, hnd⟩ := hW
  have hA : DataW.TrodAll enc Try.prog W 0 (fun _ => true) true Try.f3.params.toList args.toList ds p := hA0
  rw [Try.params3] at hA hval
  obtain ⟨v0, v1, v2, d0, d1, d2, p0, p1, p2, rfl, rfl, rfl, h0, h1, h2⟩ := trodAll_three hA
  obtain ⟨rfl, rfl⟩ := trodVars_none hV
  clear hfz hnd hA0 hval0
  obtain ⟨x0_0, x1_0, x2_0, x3_0, x4_0, x5_0, x6_0, hc0, hI_0⟩ := open_T23 (Rdb.of h0)
  have hv0 : v0 = .agg #[.int .i64 x0_0, .int .i64 x1_0, .int .i64 x2_0, .int .i64 x3_0, .int .i64 x4_0, .int .i64 x5_0, .int .i64 x6_0] := by
    obtain ⟨c_, rfl, _⟩ := okWide_struct Try.underlying23 (hval 0 23 v0 rfl rfl)
    exact agg_of hc0
  subst hv0
  obtain ⟨u1, l1, e1, E1, q1⟩ := (Rdb.of h1).zs Try.underlying24 Try.underlying3 (by kernel_rfl)
  obtain rfl := one_of (noagg (okWide_slice Try.underlying24 (hval 1 24 v1 rfl rfl))) e1
  obtain ⟨u2, m2, e2, E2, r2⟩ := (Rdb.of h2).slice 2 (by decide) Try.underlying25 (by kernel_rfl)
  obtain rfl := one_of (noagg (okWide_slice Try.underlying25 (hval 2 25 v2 rfl rfl))) e2
  obtain ⟨l2, rfl, q2⟩ := lift_map (f := An.cells) (Q := fun _ => True) fun b hb => (by obtain ⟨x0, x1, e_, FhI⟩ := open_T35 (r2 b hb); exact ⟨⟨x0, x1⟩, e_, trivial⟩)
  refine (Tri.law (law32_jobOnce x0_0 x1_0 x2_0 x3_0 x4_0 x5_0 x6_0 v1 l1 v2 l2) W (by intro A hA; simp only [List.mem_cons, List.not_mem_nil, or_false] at hA; rcases hA with rfl | rfl <;> first | exact E1 | exact E2)).mono fun e W' ⟨he, hb⟩ => ?_
  subst he
  exact ⟨_, rfl, post_true Try.laidOut hW' rfl rfl rfl Try.underlying4 (by rw [Try.params3]; exact List.forall_mem_cons.2 ⟨⟨by kernel_rfl, of_decide_eq_true (by kernel_rfl)⟩, List.forall_mem_cons.2 ⟨⟨by kernel_rfl, of_decide_eq_true (by kernel_rfl)⟩, List.forall_mem_cons.2 ⟨⟨by kernel_rfl, of_decide_eq_true (by kernel_rfl)⟩, List.forall_mem_nil _⟩⟩⟩) hb⟩

theorem jobOnce_holds : Rows.JobOnceSaid :=
  OpenClaim.holds_of_wide 3 Try.f3 rfl rfl rfl rfl rfl rfl rfl ⟨rfl, rfl, rfl, rfl, rfl⟩ rfl rfl rfl rfl rfl (by kernel_rfl) Try.func3 (by kernel_rfl)
    (of_decide_eq_true (by kernel_rfl)) (by unfold Func.isWrapper; rw [if_neg (of_decide_eq_false (by kernel_rfl))]; exact ⟨rfl, rfl⟩)
    (fun os started H enc _ => jobOnce_lifted os started H enc)

end Go.Proofs.Ytnkhmbbnabejhaa
