/-
  LedgerTells: from the walk to the row.
-/
import Derived.Test.YtghhjhjpccipaaaLaw1
import Derived.Test.YtghhjhjpccipaaaLD14
import Derived.Test.YtghhjhjpccipaaaLedger2
import Derived.Test.YtghhjhjpccipaaaRows
import Derived.ProofKit
namespace Go.Proofs.Ytghhjhjpccipaaa
open Go Go.LK Go.ChangeShapes Go.WideShapes Go.ChangeAt Go.RowKit

theorem Try.own : ownKnob Try.prog.godebug = none := by kernel_rfl
theorem Try.laidOut : laidOutB Try.prog = true := by kernel_rfl
theorem ints61 {fs : Array Field} (h : Try.prog.underlying 61 = some (.struct fs)) : fs.size = 8 ∧ (∀ (j : Nat) (q : Field), fs[j]? = some q → Try.prog.underlying q.type = some (.int .i64)) := by
  rw [Try.underlying61] at h
  cases h
  refine ⟨rfl, fun j q hq => ?_⟩
  match j with
  | 0 => cases hq; exact Try.underlying3
  | 1 => cases hq; exact Try.underlying3
  | 2 => cases hq; exact Try.underlying3
  | 3 => cases hq; exact Try.underlying3
  | 4 => cases hq; exact Try.underlying3
  | 5 => cases hq; exact Try.underlying3
  | 6 => cases hq; exact Try.underlying3
  | 7 => cases hq; exact Try.underlying3
  | j + 8 => simp at hq

set_option maxRecDepth 100000 in
theorem ledgerTells_lifted (os : Os) (started : os.Started) (H : Type) (enc : TypeId × Value → H) :
    ReturnsInHanded {} Try.checked os 6 .any (Rows.ledgerTellsSpec.pre6 enc Try.prog Try.f6 Rows.ledgerTellsRow.domain false) (Rows.ledgerTellsSpec.post enc Try.prog Try.f6 false true false false) := by
  refine returnsInHanded_of_change (C := Try.checked) Try.own started (by kernel_rfl) Try.func6
    (ChangeSpec.witness6 (enc := enc) (C := Try.checked) false ⟨#[], #[.slice none 0 0, .agg #[.int .i64 0, .int .i64 0, .int .i64 0, .int .i64 0, .int .i64 0, .int .i64 0, .int .i64 0, .int .i64 0]], []⟩ 8 (by kernel_rfl) (by kernel_rfl) (by kernel_rfl) (by kernel_rfl)) ?_
  intro W base args ds gs before hval0 hW _ _
  have hval : ∀ (j : Nat) t v, Try.f6.params[j]? = some t → args[j]? = some v → Value.okWide Try.prog W .any base t v := hval0
  have hW' := hW
  obtain ⟨p, q, hA0, hV, rfl, hfz, hnd⟩ := hW
  have hA : DataW.TrodAll enc Try.prog W 0 (fun _ => true) true Try.f6.params.toList args.toList ds p := hA0
  rw [Try.params6] at hA hval
  obtain ⟨v0, v1, d0, d1, p0, p1, rfl, rfl, rfl, h0, h1⟩ := trodAll_two hA
  obtain ⟨rfl, rfl⟩ := trodVars_none hV
  clear hfz hnd hA0 hval0
  obtain ⟨l0, hl0, hw0⟩ := open_recs Ft.cells Ft.of 8 (by decide) Try.underlying55 Try.underlying61 (by kernel_rfl) (by kernel_rfl) (ints61 Try.underlying61).1 (ints61 Try.underlying61).2 Ft.of_cells (hval 0 55 v0 rfl rfl) h0
  obtain ⟨g1, hv1, hb1⟩ := open_sint 8 Try.underlying61 (by kernel_rfl) (by kernel_rfl) (ints61 Try.underlying61).1 (ints61 Try.underlying61).2 (hval 1 61 v1 rfl rfl) h1
  have hv1' : v1 = .agg #[.int .i64 (g1 0), .int .i64 (g1 1), .int .i64 (g1 2), .int .i64 (g1 3), .int .i64 (g1 4), .int .i64 (g1 5), .int .i64 (g1 6), .int .i64 (g1 7)] := hv1
  subst hv1'
  refine (Tri.law (law41_ledgerTells v0 l0 ⟨g1 0, g1 1, g1 2, g1 3, g1 4, g1 5, g1 6, g1 7⟩) W (by intro A hA; simp only [List.mem_cons, List.not_mem_nil, or_false] at hA; subst hA; exact hl0)).mono fun e W' ⟨he, hb⟩ => ?_
  subst he
  exact ⟨_, rfl, post_true Try.laidOut hW' rfl rfl rfl Try.underlying4 (by rw [Try.params6]; exact List.forall_mem_cons.2 ⟨⟨by kernel_rfl, of_decide_eq_true (by kernel_rfl)⟩, List.forall_mem_cons.2 ⟨⟨by kernel_rfl, of_decide_eq_true (by kernel_rfl)⟩, List.forall_mem_nil _⟩⟩) hb⟩

theorem ledgerTells_holds : Rows.LedgerTellsSaid :=
  OpenClaim.holds_of_wide 6 Try.f6 rfl rfl rfl rfl rfl rfl rfl ⟨rfl, rfl, rfl, rfl, rfl⟩ rfl rfl rfl rfl rfl (by kernel_rfl) Try.func6 (by kernel_rfl)
    (of_decide_eq_true (by kernel_rfl)) (by unfold Func.isWrapper; rw [if_neg (of_decide_eq_false (by kernel_rfl))]; exact ⟨rfl, rfl⟩)
    (fun os started H enc _ => ledgerTells_lifted os started H enc)

end Go.Proofs.Ytghhjhjpccipaaa
