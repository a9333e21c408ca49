/-
  WaitOne: from the walk to the row.
-/
import Derived.Test.YtnkhmbbnabejhaaLawP
import Derived.Test.YtnkhmbbnabejhaaVX7
import Derived.Test.YtnkhmbbnabejhaaRows
import Derived.ProofKit
namespace Go.Proofs.Ytnkhmbbnabejhaa
open Go Go.LK Go.ChangeShapes Go.WideShapes Go.ChangeAt Go.RowKit

theorem Try.own : ownKnob Try.prog.godebug = none := by kernel_rfl
theorem Try.laidOut : laidOutB Try.prog = true := by kernel_rfl
theorem open_T44 {H : Type} {enc : TypeId × Value → H} {W : World} {cs : List Value} (h : Rdb enc Try.prog W 44 cs) : ∃ (x0 : Int) (x1 : Int) (x2 : Int), cs = [.int .i64 x0, .int .i64 x1, .int .i64 x2] ∧ (LP.I64s [x0, x1, x2]) := by
  have h0 : Rdb enc Try.prog W 3 ((cs.drop 0).take 1) := by
    have h_ : Rdb enc Try.prog W 3 ((cs.drop 0).take (Try.prog.cellsOf 3)) := by
      exact h.field Try.underlying44 0 _ rfl
    rwa [show Try.prog.cellsOf 3 = 1 by kernel_rfl] at h_
  obtain ⟨x0, e0, b0⟩ := h0.int Try.underlying3
  have h1 : Rdb enc Try.prog W 3 ((cs.drop 1).take 1) := by
    have h_ : Rdb enc Try.prog W 3 ((cs.drop 1).take (Try.prog.cellsOf 3)) := by
      exact h.field Try.underlying44 1 _ rfl
    rwa [show Try.prog.cellsOf 3 = 1 by kernel_rfl] at h_
  obtain ⟨x1, e1, b1⟩ := h1.int Try.underlying3
  have h2 : Rdb enc Try.prog W 3 ((cs.drop 2).take 1) := by
    have h_ : Rdb enc Try.prog W 3 ((cs.drop 2).take (Try.prog.cellsOf 3)) := by
      exact h.field Try.underlying44 2 _ rfl
    rwa [show Try.prog.cellsOf 3 = 1 by kernel_rfl] at h_
  obtain ⟨x2, e2, b2⟩ := h2.int Try.underlying3
  have hI : LP.I64s [x0, x1, x2] := by
    intro x hx
    simp only [List.mem_cons, List.not_mem_nil, or_false] at hx
    rcases hx with rfl | rfl | rfl <;> assumption
  have hc : cs = [.int .i64 x0, .int .i64 x1, .int .i64 x2] := (List.drop_zero (l := cs)).symm.trans (by rw [cut_next (m := 1) e0 rfl, cut_next (m := 2) e1 rfl, cut_next (m := 3) e2 rfl, cut_end (m := 3) (by rw [h.len Try.underlying44]; kernel_rfl)]; rfl)
  exact ⟨x0, x1, x2, hc, hI⟩
set_option maxRecDepth 100000 in
theorem waitOne_lifted (os : Os) (started : os.Started) (H : Type) (enc : TypeId × Value → H) :
    ReturnsInHanded {} Try.checked os 4 .any (Rows.waitOneSpec.pre6 enc Try.prog Try.f4 Rows.waitOneRow.domain false) (Rows.waitOneSpec.post enc Try.prog Try.f4 false true false false) := by
  refine returnsInHanded_of_change (C := Try.checked) Try.own started (by kernel_rfl) Try.func4
    (ChangeSpec.witness6 (enc := enc) (C := Try.checked) false ⟨#[], #[.slice none 0 0, .int .i64 0], []⟩ 8 (by kernel_rfl) (by kernel_rfl) (by kernel_rfl) (by kernel_rfl)) ?_
  intro W base args ds gs before hval0 hW _ _
  have hval : ∀ (j : Nat) t v, Try.f4.params[j]? = some t → args[j]? = some v → Value.okWide Try.prog W .any base t v := hval0
  have hW' := hW
  obtain ⟨p, q, hA0, hV, rfl, hfz, hnd⟩ := hW
  have hA : DataW.TrodAll enc Try.prog W 0 (fun _ => true) true Try.f4.params.toList args.toList ds p := hA0
  rw [Try.params4] at hA hval
  obtain ⟨v0, v1, d0, d1, p0, p1, rfl, rfl, rfl, h0, h1⟩ := trodAll_two hA
  obtain ⟨rfl, rfl⟩ := trodVars_none hV
  clear hfz hnd hA0 hval0
  obtain ⟨u0, m0, e0, E0, r0⟩ := (Rdb.of h0).slice 3 (by decide) Try.underlying40 (by kernel_rfl)
  obtain rfl := one_of (noagg (okWide_slice Try.underlying40 (hval 0 40 v0 rfl rfl))) e0
  obtain ⟨l0, rfl, q0⟩ := lift_map (f := Ac.cells) (Q := fun _ => True) fun b hb => (by obtain ⟨x0, x1, x2, e_, FhI⟩ := open_T44 (r0 b hb); exact ⟨⟨x0, x1, x2⟩, e_, trivial⟩)
  obtain ⟨x1, rfl, rfl, rfl, wx1⟩ := open_int Try.underlying3 (hval 1 3 v1 rfl rfl) h1
  refine (Tri.law (law34_waitOne v0 l0 x1) W (by intro A hA; simp only [List.mem_cons, List.not_mem_nil, or_false] at hA; subst hA; exact E0)).mono fun e W' ⟨he, hb⟩ => ?_
  subst he
  exact ⟨_, rfl, post_true Try.laidOut hW' rfl rfl rfl Try.underlying4 (by rw [Try.params4]; exact List.forall_mem_cons.2 ⟨⟨by kernel_rfl, of_decide_eq_true (by kernel_rfl)⟩, List.forall_mem_cons.2 ⟨⟨by kernel_rfl, of_decide_eq_true (by kernel_rfl)⟩, List.forall_mem_nil _⟩⟩) hb⟩

theorem waitOne_holds : Rows.WaitOneSaid :=
  OpenClaim.holds_of_wide 4 Try.f4 rfl rfl rfl rfl rfl rfl rfl ⟨rfl, rfl, rfl, rfl, rfl⟩ rfl rfl rfl rfl rfl (by kernel_rfl) Try.func4 (by kernel_rfl)
    (of_decide_eq_true (by kernel_rfl)) (by unfold Func.isWrapper; rw [if_neg (of_decide_eq_false (by kernel_rfl))]; exact ⟨rfl, rfl⟩)
    (fun os started H enc _ => waitOne_lifted os started H enc)

end Go.Proofs.Ytnkhmbbnabejhaa
