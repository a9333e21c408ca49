/-
  TraceBack: from the walk to the row and its card.
-/
import Derived.Test.YtnfkoohgdcocdaaDoorLawT
import Derived.Test.YtnfkoohgdcocdaaDoorTX6
import Derived.ProofKit
namespace Go.Proofs.YtnfkoohgdcocdaaDoor
open Go Go.LK Go.ChangeShapes Go.WideShapes Go.ChangeAt Go.RowKit

theorem ints23 {fs : Array Field} (h : Tryd.prog.underlying 23 = some (.struct fs)) : fs.size = 7 ∧ (∀ (j : Nat) (q : Field), fs[j]? = some q → Tryd.prog.underlying q.type = some (.int .i64)) := by
  rw [Tryd.underlying23] at h
  cases h
  refine ⟨rfl, fun j q hq => ?_⟩
  match j with
  | 0 => cases hq; exact Tryd.underlying3
  | 1 => cases hq; exact Tryd.underlying3
  | 2 => cases hq; exact Tryd.underlying3
  | 3 => cases hq; exact Tryd.underlying3
  | 4 => cases hq; exact Tryd.underlying3
  | 5 => cases hq; exact Tryd.underlying3
  | 6 => cases hq; exact Tryd.underlying3
  | j + 7 => simp at hq
set_option maxRecDepth 100000 in
theorem traceBack_lifted (os : Os) (started : os.Started) (H : Type) (enc : TypeId × Value → H) :
    ReturnsInHanded {} Tryd.checked os 4 .any (fun w args => (Rows.traceBackSpec.pre enc Tryd.prog Tryd.f4 [] false w args ∧ laidMetH Tryd.prog laidL w) ∧ sizedMet enc Tryd.prog Tryd.f4 (OpenSpec.ofChange Rows.traceBackSpec) false w args) (Rows.traceBackSpec.post enc Tryd.prog Tryd.f4 false true false false) := by
  refine law_and_shaped (C := Tryd.checked) (X := fun w _ => laidMetH Tryd.prog laidL w) (fun _ _ _ hh h => h.of_heap hh) Tryd.own started (by kernel_rfl) Tryd.func4
    (ChangeSpec.witness_shaped (enc := enc) (C := Tryd.checked) (os := os) (X := fun w _ => laidMetH Tryd.prog laidL w) false (World.laidAll Tryd.prog os laidL) #[.slice none 0 0] 8 (World.laidAll_os _ _ _) (World.shaped_of_ZipB (by kernel_rfl) (by kernel_rfl)) (by kernel_rfl) (by kernel_rfl) (by kernel_rfl) (door_met os _)) ?_
  intro W base args ds gs before hval0 hW hL hsh
  have hval : ∀ (j : Nat) t v, Tryd.f4.params[j]? = some t → args[j]? = some v → Value.okWide Tryd.prog W .any base t v := hval0
  have hW' := hW
  obtain ⟨p, q, hA0, hV, rfl, hfz, hnd⟩ := hW
  have hA : DataW.TrodAll enc Tryd.prog W 0 (fun _ => true) true Tryd.f4.params.toList args.toList ds p := hA0
  rw [Tryd.params4] at hA hval
  obtain ⟨v0, d0, rfl, rfl, h0⟩ := trodAll_one hA
  obtain ⟨rfl, rfl⟩ := trodVars_none hV
  have hlib := of_laid hsh hL
  have hm0 := of_lockkeeper_trace_names hsh hL
  clear hfz hnd hA0 hval0
  obtain ⟨l0, hl0, hw0⟩ := open_recs Ev.cells Ev.of 7 (by decide) Tryd.underlying35 Tryd.underlying23 (by kernel_rfl) (by kernel_rfl) (ints23 Tryd.underlying23).1 (ints23 Tryd.underlying23).2 Ev.of_cells (hval 0 35 v0 rfl rfl) h0
  refine (Tri.law (law39_traceBack v0 l0 (EvsI_of hw0)) W (by intro A hA; simp only [List.mem_cons, List.not_mem_nil, or_false] at hA; rcases hA with rfl | rfl | rfl <;> first | exact hlib | exact hm0 | exact hl0)).mono fun e W' ⟨he, hb⟩ => ?_
  subst he
  exact ⟨_, rfl, post_true Tryd.laidOut hW' rfl rfl rfl Tryd.underlying4 (by rw [Tryd.params4]; exact List.forall_mem_cons.2 ⟨⟨by kernel_rfl, of_decide_eq_true (by kernel_rfl)⟩, List.forall_mem_nil _⟩) hb⟩

theorem traceBack_holds : Rows.TraceBackSaid :=
  OpenClaim.holds_of_wide 4 Tryd.f4 rfl rfl rfl rfl rfl rfl rfl ⟨rfl, rfl, rfl, rfl, rfl⟩ rfl rfl rfl rfl rfl (by kernel_rfl) Tryd.func4 (by kernel_rfl)
    (of_decide_eq_true (by kernel_rfl)) (by unfold Func.isWrapper; first | (rw [if_pos (by decide +kernel)]; kernel_rfl) | (rw [if_neg (by decide +kernel)]; exact ⟨rfl, rfl⟩))
    (fun os started H enc _ => traceBack_lifted os started H enc)

theorem traceBack_card : Rows.TraceBackCardSaid :=
  Claim7.holds_tied_plain_at .later [] [.data, .data, .data, .sentinel, .sentinel, .widerDeep] true (true, "4d6bec6496596d1e308a999f11d2983c701f5153bebfa128ad0defe17c9d7dca") true
    traceBack_holds (fun _ h => by cases h) (by kernel_rfl) (fun _ h => by cases h) traceBack_row_tie rfl ⟨rfl, rfl⟩ (by kernel_rfl) rfl
    (fun f fn hf hfn => by
      obtain rfl : f = 4 := Option.some.inj ((show Tryd.prog.funcNamed "lockkeeper/lockkeeperlaw39.TraceBack" = some 4 by kernel_rfl).symm.trans hf) |>.symm
      obtain rfl : fn = Tryd.f4 := (Option.some.inj (Tryd.func4.symm.trans hfn)).symm
      exact ⟨by kernel_rfl, fun j t ht => by
        rw [Tryd.params4] at ht
        have hm : t ∈ [35] := by simpa using Array.mem_of_getElem? ht
        have hall : ([35].all fun u => !Tryd.prog.wantsStandIn u) = true := by kernel_rfl
        exact (show Tryd.prog.wantsStandIn t = false by simpa using List.all_eq_true.1 hall t hm)⟩)
    (by kernel_rfl)

end Go.Proofs.YtnfkoohgdcocdaaDoor
