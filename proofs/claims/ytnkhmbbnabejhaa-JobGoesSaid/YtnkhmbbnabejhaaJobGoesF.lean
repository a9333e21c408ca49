/-
  JobGoes: from the walk to the row.
-/
import Derived.Test.YtnkhmbbnabejhaaLawP
import Derived.Test.YtnkhmbbnabejhaaJX4
import Derived.Test.YtnkhmbbnabejhaaRows
import Derived.ProofKit
namespace Go.Proofs.Ytnkhmbbnabejhaa
open Go Go.LK Go.ChangeShapes Go.WideShapes Go.ChangeAt Go.RowKit

theorem Try.own : ownKnob Try.prog.godebug = none := by kernel_rfl
theorem Try.laidOut : laidOutB Try.prog = true := by kernel_rfl
theorem open_T23 {H : Type} {enc : TypeId × Value → H} {W : World} {cs : List Value} (h : Rdb enc Try.prog W 23 cs) : ∃ (x0 : Int) (x1 : Int) (x2 : Int) (x3 : Int) (x4 : Int) (x5 : Int) (x6 : Int), cs = [.int .i64 x0, .int .i64 x1, .int .i64 x2, .int .i64 x3, .int .i64 x4, .int .i64 x5, .int .i64 x6] ∧ (LP.I64s [x0, x1, x2, x3, x4, x5, x6]) := by
  have h0 : Rdb enc Try.prog W 3 ((cs.drop 0).take 1) := by
    have h_ : Rdb enc Try.prog W 3 ((cs.drop 0).take (Try.prog.cellsOf 3)) := by
      exact h.field Try.underlying23 0 _ rfl
    rwa [show Try.prog.cellsOf 3 = 1 by kernel_rfl] at h_
  obtain ⟨x0, e0, b0⟩ := h0.int Try.underlying3
  have h1 : Rdb enc Try.prog W 3 ((cs.drop 1).take 1) := by
    have h_ : Rdb enc Try.prog W 3 ((cs.drop 1).take (Try.prog.cellsOf 3)) := by
      exact h.field Try.underlying23 1 _ rfl
    rwa [show Try.prog.cellsOf 3 = 1 by kernel_rfl] at h_
  obtain ⟨x1, e1, b1⟩ := h1.int Try.underlying3
  have h2 : Rdb enc Try.prog W 3 ((cs.drop 2).take 1) := by
    have h_ : Rdb enc Try.prog W 3 ((cs.drop 2).take (Try.prog.cellsOf 3)) := by
      exact h.field Try.underlying23 2 _ rfl
    rwa [show Try.prog.cellsOf 3 = 1 by kernel_rfl] at h_
  obtain ⟨x2, e2, b2⟩ := h2.int Try.underlying3
  have h3 : Rdb enc Try.prog W 3 ((cs.drop 3).take 1) := by
    have h_ : Rdb enc Try.prog W 3 ((cs.drop 3).take (Try.prog.cellsOf 3)) := by
      exact h.field Try.underlying23 3 _ rfl
    rwa [show Try.prog.cellsOf 3 = 1 by kernel_rfl] at h_
  obtain ⟨x3, e3, b3⟩ := h3.int Try.underlying3
  have h4 : Rdb enc Try.prog W 3 ((cs.drop 4).take 1) := by
    have h_ : Rdb enc Try.prog W 3 ((cs.drop 4).take (Try.prog.cellsOf 3)) := by
      exact h.field Try.underlying23 4 _ rfl
    rwa [show Try.prog.cellsOf 3 = 1 by kernel_rfl] at h_
  obtain ⟨x4, e4, b4⟩ := h4.int Try.underlying3
  have h5 : Rdb enc Try.prog W 3 ((cs.drop 5).take 1) := by
    have h_ : Rdb enc Try.prog W 3 ((cs.drop 5).take (Try.prog.cellsOf 3)) := by
      exact h.field Try.underlying23 5 _ rfl
    rwa [show Try.prog.cellsOf 3 = 1 by kernel_rfl] at h_
  obtain ⟨x5, e5, b5⟩ := h5.int Try.underlying3
  have h6 : Rdb enc Try.prog W 3 ((cs.drop 6).take 1) := by
    have h_ : Rdb enc Try.prog W 3 ((cs.drop 6).take (Try.prog.cellsOf 3)) := by
      exact h.field Try.underlying23 6 _ rfl
    rwa [show Try.prog.cellsOf 3 = 1 by kernel_rfl] at h_
  obtain ⟨x6, e6, b6⟩ := h6.int Try.underlying3
  have hI : LP.I64s [x0, x1, x2, x3, x4, x5, x6] := by
    intro x hx
    simp only [List.mem_cons, List.not_mem_nil, or_false] at hx
    rcases hx with rfl | rfl | rfl | rfl | rfl | rfl | rfl <;> assumption
  have hc : cs = [.int .i64 x0, .int .i64 x1, .int .i64 x2, .int .i64 x3, .int .i64 x4, .int .i64 x5, .int .i64 x6] := (List.drop_zero (l := cs)).symm.trans (by rw [cut_next (m := 1) e0 rfl, cut_next (m := 2) e1 rfl, cut_next (m := 3) e2 rfl, cut_next (m := 4) e3 rfl, cut_next (m := 5) e4 rfl, cut_next (m := 6) e5 rfl, cut_next (m := 7) e6 rfl, cut_end (m := 7) (by rw [h.len Try.underlying23]; kernel_rfl)]; rfl)
  exact ⟨x0, x1, x2, x3, x4, x5, x6, hc, hI⟩
theorem open_T28 {H : Type} {enc : TypeId × Value → H} {W : World} {cs : List Value} (h : Rdb enc Try.prog W 28 cs) : ∃ (x0 : Int) (x1 : Int) (x2 : Int) (x3 : Int) (x4 : Int) (x5 : Int) (x6 : Int) (x7 : Int) (v8 : Value) (l8 : List Int), cs = [.int .i64 x0, .int .i64 x1, .int .i64 x2, .int .i64 x3, .int .i64 x4, .int .i64 x5, .int .i64 x6, .int .i64 x7, v8] ∧ (LP.I64s [x0, x1, x2, x3, x4, x5, x6, x7]) ∧ (Elt W v8 1 (l8.map encZ)) ∧ (∀ x ∈ l8, LP.I64 x) := by
  have h0 : Rdb enc Try.prog W 23 ((cs.drop 0).take 7) := by
    have h_ : Rdb enc Try.prog W 23 ((cs.drop 0).take (Try.prog.cellsOf 23)) := by
      exact h.field Try.underlying28 0 _ rfl
    rwa [show Try.prog.cellsOf 23 = 7 by kernel_rfl] at h_
  obtain ⟨x0, x1, x2, x3, x4, x5, x6, e0, hI_0⟩ := open_T23 h0
  have b0 : LP.I64 x0 := hI_0 _ (by simp)
  have b1 : LP.I64 x1 := hI_0 _ (by simp)
  have b2 : LP.I64 x2 := hI_0 _ (by simp)
  have b3 : LP.I64 x3 := hI_0 _ (by simp)
  have b4 : LP.I64 x4 := hI_0 _ (by simp)
  have b5 : LP.I64 x5 := hI_0 _ (by simp)
  have b6 : LP.I64 x6 := hI_0 _ (by simp)
  have h1 : Rdb enc Try.prog W 3 ((cs.drop 7).take 1) := by
    have h_ : Rdb enc Try.prog W 3 ((cs.drop 7).take (Try.prog.cellsOf 3)) := by
      exact h.field Try.underlying28 1 _ rfl
    rwa [show Try.prog.cellsOf 3 = 1 by kernel_rfl] at h_
  obtain ⟨x7, e1, b7⟩ := h1.int Try.underlying3
  have h2 : Rdb enc Try.prog W 24 ((cs.drop 8).take 1) := by
    have h_ : Rdb enc Try.prog W 24 ((cs.drop 8).take (Try.prog.cellsOf 24)) := by
      exact h.field Try.underlying28 2 _ rfl
    rwa [show Try.prog.cellsOf 24 = 1 by kernel_rfl] at h_
  obtain ⟨v8, l8, e2, E8, q8⟩ := h2.zs Try.underlying24 Try.underlying3 (by kernel_rfl)
  have hI : LP.I64s [x0, x1, x2, x3, x4, x5, x6, x7] := by
    intro x hx
    simp only [List.mem_cons, List.not_mem_nil, or_false] at hx
    rcases hx with rfl | rfl | rfl | rfl | rfl | rfl | rfl | rfl <;> assumption
  have hc : cs = [.int .i64 x0, .int .i64 x1, .int .i64 x2, .int .i64 x3, .int .i64 x4, .int .i64 x5, .int .i64 x6, .int .i64 x7, v8] := (List.drop_zero (l := cs)).symm.trans (by rw [cut_next (m := 7) e0 rfl, cut_next (m := 8) e1 rfl, cut_next (m := 9) e2 rfl, cut_end (m := 9) (by rw [h.len Try.underlying28]; kernel_rfl)]; rfl)
  exact ⟨x0, x1, x2, x3, x4, x5, x6, x7, v8, l8, hc, hI, E8, q8⟩
theorem open_T35 {H : Type} {enc : TypeId × Value → H} {W : World} {cs : List Value} (h : Rdb enc Try.prog W 35 cs) : ∃ (x0 : Int) (x1 : Int), cs = [.int .i64 x0, .int .i64 x1] ∧ (LP.I64s [x0, x1]) := by
  have h0 : Rdb enc Try.prog W 3 ((cs.drop 0).take 1) := by
    have h_ : Rdb enc Try.prog W 3 ((cs.drop 0).take (Try.prog.cellsOf 3)) := by
      exact h.field Try.underlying35 0 _ rfl
    rwa [show Try.prog.cellsOf 3 = 1 by kernel_rfl] at h_
  obtain ⟨x0, e0, b0⟩ := h0.int Try.underlying3
  have h1 : Rdb enc Try.prog W 3 ((cs.drop 1).take 1) := by
    have h_ : Rdb enc Try.prog W 3 ((cs.drop 1).take (Try.prog.cellsOf 3)) := by
      exact h.field Try.underlying35 1 _ rfl
    rwa [show Try.prog.cellsOf 3 = 1 by kernel_rfl] at h_
  obtain ⟨x1, e1, b1⟩ := h1.int Try.underlying3
  have hI : LP.I64s [x0, x1] := by
    intro x hx
    simp only [List.mem_cons, List.not_mem_nil, or_false] at hx
    rcases hx with rfl | rfl <;> assumption
  have hc : cs = [.int .i64 x0, .int .i64 x1] := (List.drop_zero (l := cs)).symm.trans (by rw [cut_next (m := 1) e0 rfl, cut_next (m := 2) e1 rfl, cut_end (m := 2) (by rw [h.len Try.underlying35]; kernel_rfl)]; rfl)
  exact ⟨x0, x1, hc, hI⟩
set_option maxRecDepth 100000 in
theorem jobGoes_lifted (os : Os) (started : os.Started) (H : Type) (enc : TypeId × Value → H) :
    ReturnsInHanded {} Try.checked os 7 .any (Rows.jobGoesSpec.pre6 enc Try.prog Try.f7 Rows.jobGoesRow.domain false) (Rows.jobGoesSpec.post enc Try.prog Try.f7 false true false false) := by
  refine returnsInHanded_of_change (C := Try.checked) Try.own started (by kernel_rfl) Try.func7
    (ChangeSpec.witness6 (enc := enc) (C := Try.checked) false ⟨#[], #[.agg #[.int .i64 0, .int .i64 0, .int .i64 0, .int .i64 0, .int .i64 0, .int .i64 0, .int .i64 0, .int .i64 0, .slice none 0 0], .slice none 0 0, .agg #[.int .i64 0, .int .i64 0]], []⟩ 8 (by kernel_rfl) (by kernel_rfl) (by kernel_rfl) (by kernel_rfl)) ?_
  intro W base args ds gs before hval0 hW _ _
  have hval : ∀ (j : Nat) t v, Try.f7.params[j]? = some t → args[j]? = some v → Value.okWide Try.prog W .any base t v := hval0
  have hW' := hW
  obtain ⟨p, q, hA0, hV, rfl, hfz, hnd⟩ := hW
  have hA : DataW.TrodAll enc Try.prog W 0 (fun _ => true) true Try.f7.params.toList args.toList ds p := hA0
  rw [Try.params7] at hA hval
  obtain ⟨v0, v1, v2, d0, d1, d2, p0, p1, p2, rfl, rfl, rfl, h0, h1, h2⟩ := trodAll_three hA
  obtain ⟨rfl, rfl⟩ := trodVars_none hV
  clear hfz hnd hA0 hval0
  obtain ⟨x0_0, x1_0, x2_0, x3_0, x4_0, x5_0, x6_0, x7_0, v8_0, l8_0, hc0, hI_0, E8_0, q8_0⟩ := open_T28 (Rdb.of h0)
  have hv0 : v0 = .agg #[.int .i64 x0_0, .int .i64 x1_0, .int .i64 x2_0, .int .i64 x3_0, .int .i64 x4_0, .int .i64 x5_0, .int .i64 x6_0, .int .i64 x7_0, v8_0] := by
    obtain ⟨c_, rfl, _⟩ := okWide_struct Try.underlying28 (hval 0 28 v0 rfl rfl)
    exact agg_of hc0
  subst hv0
  obtain ⟨u1, l1, e1, E1, q1⟩ := (Rdb.of h1).zs Try.underlying24 Try.underlying3 (by kernel_rfl)
  obtain rfl := one_of (noagg (okWide_slice Try.underlying24 (hval 1 24 v1 rfl rfl))) e1
  obtain ⟨x0_2, x1_2, hc2, hI_2⟩ := open_T35 (Rdb.of h2)
  have hv2 : v2 = .agg #[.int .i64 x0_2, .int .i64 x1_2] := by
    obtain ⟨c_, rfl, _⟩ := okWide_struct Try.underlying35 (hval 2 35 v2 rfl rfl)
    exact agg_of hc2
  subst hv2
  refine (Tri.law (law32_jobGoes x0_0 x1_0 x2_0 x3_0 x4_0 x5_0 x6_0 x7_0 v8_0 l8_0 v1 l1 x0_2 x1_2) W (by intro A hA; simp only [List.mem_cons, List.not_mem_nil, or_false] at hA; rcases hA with rfl | rfl <;> first | exact E8_0 | exact E1)).mono fun e W' ⟨he, hb⟩ => ?_
  subst he
  exact ⟨_, rfl, post_true Try.laidOut hW' rfl rfl rfl Try.underlying4 (by rw [Try.params7]; exact List.forall_mem_cons.2 ⟨⟨by kernel_rfl, of_decide_eq_true (by kernel_rfl)⟩, List.forall_mem_cons.2 ⟨⟨by kernel_rfl, of_decide_eq_true (by kernel_rfl)⟩, List.forall_mem_cons.2 ⟨⟨by kernel_rfl, of_decide_eq_true (by kernel_rfl)⟩, List.forall_mem_nil _⟩⟩⟩) hb⟩

theorem jobGoes_holds : Rows.JobGoesSaid :=
  OpenClaim.holds_of_wide 7 Try.f7 rfl rfl rfl rfl rfl rfl rfl ⟨rfl, rfl, rfl, rfl, rfl⟩ rfl rfl rfl rfl rfl (by kernel_rfl) Try.func7 (by kernel_rfl)
    (of_decide_eq_true (by kernel_rfl)) (by unfold Func.isWrapper; rw [if_neg (of_decide_eq_false (by kernel_rfl))]; exact ⟨rfl, rfl⟩)
    (fun os started H enc _ => jobGoes_lifted os started H enc)

end Go.Proofs.Ytnkhmbbnabejhaa
