/-
  GraphReaches: from the walk to the row.
-/
import Derived.Test.YtnkhmbbnabejhaaLawP
import Derived.Test.YtnkhmbbnabejhaaGX10
import Derived.Test.YtnkhmbbnabejhaaRows
import Derived.ProofKit
namespace Go.Proofs.Ytnkhmbbnabejhaa
open Go Go.LK Go.ChangeShapes Go.WideShapes Go.ChangeAt Go.RowKit

theorem Try.own : ownKnob Try.prog.godebug = none := by kernel_rfl
theorem Try.laidOut : laidOutB Try.prog = true := by kernel_rfl
set_option maxRecDepth 100000 in
theorem graphReaches_lifted (os : Os) (started : os.Started) (H : Type) (enc : TypeId × Value → H) :
    ReturnsInHanded {} Try.checked os 10 .any (Rows.graphReachesSpec.pre6 enc Try.prog Try.f10 Rows.graphReachesRow.domain false) (Rows.graphReachesSpec.post enc Try.prog Try.f10 false true false false) := by
  refine returnsInHanded_of_change (C := Try.checked) Try.own started (by kernel_rfl) Try.func10
    (ChangeSpec.witness6 (enc := enc) (C := Try.checked) false ⟨#[], #[.slice none 0 0], []⟩ 8 (by kernel_rfl) (by kernel_rfl) (by kernel_rfl) (by kernel_rfl)) ?_
  intro W base args ds gs before hval0 hW _ _
  have hval : ∀ (j : Nat) t v, Try.f10.params[j]? = some t → args[j]? = some v → Value.okWide Try.prog W .any base t v := hval0
  have hW' := hW
  obtain ⟨p, q, hA0, hV, rfl, hfz, hnd⟩ := hW
  have hA : DataW.TrodAll enc Try.prog W 0 (fun _ => true) true Try.f10.params.toList args.toList ds p := hA0
  rw [Try.params10] at hA hval
  obtain ⟨v0, d0, rfl, rfl, h0⟩ := trodAll_one hA
  obtain ⟨rfl, rfl⟩ := trodVars_none hV
  clear hfz hnd hA0 hval0
  obtain ⟨u0, m0, e0, E0, r0⟩ := (Rdb.of h0).slice 1 (by decide) Try.underlying69 (by kernel_rfl)
  obtain rfl := one_of (noagg (okWide_slice Try.underlying69 (hval 0 69 v0 rfl rfl))) e0
  obtain ⟨l0, rfl, q0⟩ := lift_map (f := Lz.cells) (Q := fun x => Elt W x.v 1 (x.l.map encZ)) fun b hb => (by obtain ⟨v_, k_, e_, E_, _⟩ := (r0 b hb).zs Try.underlying24 Try.underlying3 (by kernel_rfl); exact ⟨⟨v_, k_⟩, e_, E_⟩)
  refine (Tri.law (law29_graphReaches v0 l0) W (by intro A hA; simp only [List.mem_cons, List.not_mem_nil, or_false] at hA; rcases hA with rfl | rfl <;> first | exact E0 | exact (fun A hA => by obtain ⟨x_, hx_, rfl⟩ := List.mem_map.1 hA; exact q0 x_ hx_))).mono fun e W' ⟨he, hb⟩ => ?_
  subst he
  exact ⟨_, rfl, post_true Try.laidOut hW' rfl rfl rfl Try.underlying4 (by rw [Try.params10]; exact List.forall_mem_cons.2 ⟨⟨by kernel_rfl, of_decide_eq_true (by kernel_rfl)⟩, List.forall_mem_nil _⟩) hb⟩

theorem graphReaches_holds : Rows.GraphReachesSaid :=
  OpenClaim.holds_of_wide 10 Try.f10 rfl rfl rfl rfl rfl rfl rfl ⟨rfl, rfl, rfl, rfl, rfl⟩ rfl rfl rfl rfl rfl (by kernel_rfl) Try.func10 (by kernel_rfl)
    (of_decide_eq_true (by kernel_rfl)) (by unfold Func.isWrapper; rw [if_neg (of_decide_eq_false (by kernel_rfl))]; exact ⟨rfl, rfl⟩)
    (fun os started H enc _ => graphReaches_lifted os started H enc)

end Go.Proofs.Ytnkhmbbnabejhaa
