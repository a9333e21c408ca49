/-
  DwellReads: from the walk to the row.
-/
import Derived.Test.YtghhjhjpccipaaaLaw1
import Derived.Test.YtghhjhjpccipaaaDW6
import Derived.Test.YtghhjhjpccipaaaRows
import Derived.ProofKit
namespace Go.Proofs.Ytghhjhjpccipaaa
open Go Go.LK Go.ChangeShapes Go.WideShapes Go.ChangeAt Go.RowKit

theorem Try.own : ownKnob Try.prog.godebug = none := by kernel_rfl
theorem Try.laidOut : laidOutB Try.prog = true := by kernel_rfl
theorem ints93 {fs : Array Field} (h : Try.prog.underlying 93 = some (.struct fs)) : fs.size = 7 ∧ (∀ (j : Nat) (q : Field), fs[j]? = some q → Try.prog.underlying q.type = some (.int .i64)) := by
  rw [Try.underlying93] at h
  cases h
  refine ⟨rfl, fun j q hq => ?_⟩
  match j with
  | 0 => cases hq; exact Try.underlying3
  | 1 => cases hq; exact Try.underlying3
  | 2 => cases hq; exact Try.underlying3
  | 3 => cases hq; exact Try.underlying3
  | 4 => cases hq; exact Try.underlying3
  | 5 => cases hq; exact Try.underlying3
  | 6 => cases hq; exact Try.underlying3
  | j + 7 => simp at hq
theorem ints42 {fs : Array Field} (h : Try.prog.underlying 42 = some (.struct fs)) : fs.size = 7 ∧ (∀ (j : Nat) (q : Field), fs[j]? = some q → Try.prog.underlying q.type = some (.int .i64)) := by
  rw [Try.underlying42] at h
  cases h
  refine ⟨rfl, fun j q hq => ?_⟩
  match j with
  | 0 => cases hq; exact Try.underlying3
  | 1 => cases hq; exact Try.underlying3
  | 2 => cases hq; exact Try.underlying3
  | 3 => cases hq; exact Try.underlying3
  | 4 => cases hq; exact Try.underlying3
  | 5 => cases hq; exact Try.underlying3
  | 6 => cases hq; exact Try.underlying3
  | j + 7 => simp at hq

set_option maxRecDepth 100000 in
theorem dwellReads_lifted (os : Os) (started : os.Started) (H : Type) (enc : TypeId × Value → H) :
    ReturnsInHanded {} Try.checked os 4 .any (Rows.dwellReadsSpec.pre6 enc Try.prog Try.f4 Rows.dwellReadsRow.domain false) (Rows.dwellReadsSpec.post enc Try.prog Try.f4 false true false false) := by
  refine returnsInHanded_of_change (C := Try.checked) Try.own started (by kernel_rfl) Try.func4
    (ChangeSpec.witness6 (enc := enc) (C := Try.checked) false ⟨#[], #[.slice none 0 0, .agg #[.int .i64 0, .int .i64 0, .int .i64 0], .agg #[.int .i64 0, .int .i64 0, .int .i64 0, .int .i64 0, .int .i64 0, .int .i64 0, .int .i64 0]], []⟩ 8 (by kernel_rfl) (by kernel_rfl) (by kernel_rfl) (by kernel_rfl)) ?_
  intro W base args ds gs before hval0 hW _ _
  have hval : ∀ (j : Nat) t v, Try.f4.params[j]? = some t → args[j]? = some v → Value.okWide Try.prog W .any base t v := hval0
  have hW' := hW
  obtain ⟨p, q, hA0, hV, rfl, hfz, hnd⟩ := hW
  have hA : DataW.TrodAll enc Try.prog W 0 (fun _ => true) true Try.f4.params.toList args.toList ds p := hA0
  rw [Try.params4] at hA hval
  obtain ⟨v0, v1, v2, d0, d1, d2, p0, p1, p2, rfl, rfl, rfl, h0, h1, h2⟩ := trodAll_three hA
  obtain ⟨rfl, rfl⟩ := trodVars_none hV
  clear hfz hnd hA0 hval0
  obtain ⟨l0, hl0, hw0⟩ := open_recs Ev.cells Ev.of 7 (by decide) Try.underlying22 Try.underlying93 (by kernel_rfl) (by kernel_rfl) (ints93 Try.underlying93).1 (ints93 Try.underlying93).2 Ev.of_cells (hval 0 22 v0 rfl rfl) h0
  obtain ⟨g1, hv1, hb1⟩ := open_aint 3 Try.underlying40 Try.underlying3 (by kernel_rfl) (by kernel_rfl) (hval 1 40 v1 rfl rfl) h1
  have hv1' : v1 = .agg #[.int .i64 (g1 0), .int .i64 (g1 1), .int .i64 (g1 2)] := hv1
  subst hv1'
  obtain ⟨g2, hv2, hb2⟩ := open_sint 7 Try.underlying42 (by kernel_rfl) (by kernel_rfl) (ints42 Try.underlying42).1 (ints42 Try.underlying42).2 (hval 2 42 v2 rfl rfl) h2
  have hv2' : v2 = .agg #[.int .i64 (g2 0), .int .i64 (g2 1), .int .i64 (g2 2), .int .i64 (g2 3), .int .i64 (g2 4), .int .i64 (g2 5), .int .i64 (g2 6)] := hv2
  subst hv2'
  refine (Tri.law (law44_dwellReads v0 l0 (g1 0) (g1 1) (g1 2) ⟨g2 0, g2 1, g2 2, g2 3, g2 4, g2 5, g2 6⟩ (hb1 2 (by decide)) (fun e he => by obtain ⟨q, rfl, hq⟩ := hw0 e he; exact hq 6 (by decide))) W (by intro A hA; simp only [List.mem_cons, List.not_mem_nil, or_false] at hA; subst hA; exact hl0)).mono fun e W' ⟨he, hb⟩ => ?_
  subst he
  exact ⟨_, rfl, post_true Try.laidOut hW' rfl rfl rfl Try.underlying4 (by rw [Try.params4]; exact List.forall_mem_cons.2 ⟨⟨by kernel_rfl, of_decide_eq_true (by kernel_rfl)⟩, List.forall_mem_cons.2 ⟨⟨by kernel_rfl, of_decide_eq_true (by kernel_rfl)⟩, List.forall_mem_cons.2 ⟨⟨by kernel_rfl, of_decide_eq_true (by kernel_rfl)⟩, List.forall_mem_nil _⟩⟩⟩) hb⟩

theorem dwellReads_holds : Rows.DwellReadsSaid :=
  OpenClaim.holds_of_wide 4 Try.f4 rfl rfl rfl rfl rfl rfl rfl ⟨rfl, rfl, rfl, rfl, rfl⟩ rfl rfl rfl rfl rfl (by kernel_rfl) Try.func4 (by kernel_rfl)
    (of_decide_eq_true (by kernel_rfl)) (by unfold Func.isWrapper; rw [if_neg (of_decide_eq_false (by kernel_rfl))]; exact ⟨rfl, rfl⟩)
    (fun os started H enc _ => dwellReads_lifted os started H enc)

end Go.Proofs.Ytghhjhjpccipaaa
