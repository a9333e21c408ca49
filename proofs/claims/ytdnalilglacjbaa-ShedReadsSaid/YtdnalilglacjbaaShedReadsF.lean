/-
  ShedReads: from the walk to the row.
-/
import Derived.Test.YtdnalilglacjbaaLawP
import Derived.Test.YtdnalilglacjbaaSX9
import Derived.Test.YtdnalilglacjbaaRows
import Derived.ProofKit
namespace Go.Proofs.Ytdnalilglacjbaa
open Go Go.LK Go.ChangeShapes Go.WideShapes Go.ChangeAt Go.RowKit

theorem Try.own : ownKnob Try.prog.godebug = none := by kernel_rfl
theorem Try.laidOut : laidOutB Try.prog = true := by kernel_rfl
theorem open_T61 {H : Type} {enc : TypeId × Value → H} {W : World} {cs : List Value} (h : Rdb enc Try.prog W 61 cs) : ∃ (x0 : Int) (x1 : Int) (x2 : Int) (x3 : Int) (x4 : Int) (x5 : Int) (x6 : Int), cs = [.int .i64 x0, .int .i64 x1, .int .i64 x2, .int .i64 x3, .int .i64 x4, .int .i64 x5, .int .i64 x6] ∧ (LP.I64s [x0, x1, x2, x3, x4, x5, x6]) := by
  have h0 : Rdb enc Try.prog W 3 ((cs.drop 0).take 1) := by
    have h_ : Rdb enc Try.prog W 3 ((cs.drop 0).take (Try.prog.cellsOf 3)) := by
      exact h.field Try.underlying61 0 _ rfl
    rwa [show Try.prog.cellsOf 3 = 1 by kernel_rfl] at h_
  obtain ⟨x0, e0, b0⟩ := h0.int Try.underlying3
  have h1 : Rdb enc Try.prog W 3 ((cs.drop 1).take 1) := by
    have h_ : Rdb enc Try.prog W 3 ((cs.drop 1).take (Try.prog.cellsOf 3)) := by
      exact h.field Try.underlying61 1 _ rfl
    rwa [show Try.prog.cellsOf 3 = 1 by kernel_rfl] at h_
  obtain ⟨x1, e1, b1⟩ := h1.int Try.underlying3
  have h2 : Rdb enc Try.prog W 3 ((cs.drop 2).take 1) := by
    have h_ : Rdb enc Try.prog W 3 ((cs.drop 2).take (Try.prog.cellsOf 3)) := by
      exact h.field Try.underlying61 2 _ rfl
    rwa [show Try.prog.cellsOf 3 = 1 by kernel_rfl] at h_
  obtain ⟨x2, e2, b2⟩ := h2.int Try.underlying3
  have h3 : Rdb enc Try.prog W 3 ((cs.drop 3).take 1) := by
    have h_ : Rdb enc Try.prog W 3 ((cs.drop 3).take (Try.prog.cellsOf 3)) := by
      exact h.field Try.underlying61 3 _ rfl
    rwa [show Try.prog.cellsOf 3 = 1 by kernel_rfl] at h_
  obtain ⟨x3, e3, b3⟩ := h3.int Try.underlying3
  have h4 : Rdb enc Try.prog W 3 ((cs.drop 4).take 1) := by
    have h_ : Rdb enc Try.prog W 3 ((cs.drop 4).take (Try.prog.cellsOf 3)) := by
      exact h.field Try.underlying61 4 _ rfl
    rwa [show Try.prog.cellsOf 3 = 1 by kernel_rfl] at h_
  obtain ⟨x4, e4, b4⟩ := h4.int Try.underlying3
  have h5 : Rdb enc Try.prog W 3 ((cs.drop 5).take 1) := by
    have h_ : Rdb enc Try.prog W 3 ((cs.drop 5).take (Try.prog.cellsOf 3)) := by
      exact h.field Try.underlying61 5 _ rfl
    rwa [show Try.prog.cellsOf 3 = 1 by kernel_rfl] at h_
  obtain ⟨x5, e5, b5⟩ := h5.int Try.underlying3
  have h6 : Rdb enc Try.prog W 3 ((cs.drop 6).take 1) := by
    have h_ : Rdb enc Try.prog W 3 ((cs.drop 6).take (Try.prog.cellsOf 3)) := by
      exact h.field Try.underlying61 6 _ rfl
    rwa [show Try.prog.cellsOf 3 = 1 by kernel_rfl] at h_
  obtain ⟨x6, e6, b6⟩ := h6.int Try.underlying3
  have hI : LP.I64s [x0, x1, x2, x3, x4, x5, x6] := by
    intro x hx
    simp only [List.mem_cons, List.not_mem_nil, or_false] at hx
    rcases hx with rfl | rfl | rfl | rfl | rfl | rfl | rfl <;> assumption
  have hc : cs = [.int .i64 x0, .int .i64 x1, .int .i64 x2, .int .i64 x3, .int .i64 x4, .int .i64 x5, .int .i64 x6] := (List.drop_zero (l := cs)).symm.trans (by rw [cut_next (m := 1) e0 rfl, cut_next (m := 2) e1 rfl, cut_next (m := 3) e2 rfl, cut_next (m := 4) e3 rfl, cut_next (m := 5) e4 rfl, cut_next (m := 6) e5 rfl, cut_next (m := 7) e6 rfl, cut_end (m := 7) (by rw [h.len Try.underlying61]; kernel_rfl)]; rfl)
  exact ⟨x0, x1, x2, x3, x4, x5, x6, hc, hI⟩
theorem open_T68 {H : Type} {enc : TypeId × Value → H} {W : World} {cs : List Value} (h : Rdb enc Try.prog W 68 cs) : ∃ (x0 : Int) (x1 : Int) (x2 : Int) (x3 : Int), cs = [.int .i64 x0, .int .i64 x1, .int .i64 x2, .int .i64 x3] ∧ (LP.I64s [x0, x1, x2, x3]) := by
  have h0 : Rdb enc Try.prog W 3 ((cs.drop 0).take 1) := by
    have h_ : Rdb enc Try.prog W 3 ((cs.drop 0).take (Try.prog.cellsOf 3)) := by
      exact h.field Try.underlying68 0 _ rfl
    rwa [show Try.prog.cellsOf 3 = 1 by kernel_rfl] at h_
  obtain ⟨x0, e0, b0⟩ := h0.int Try.underlying3
  have h1 : Rdb enc Try.prog W 3 ((cs.drop 1).take 1) := by
    have h_ : Rdb enc Try.prog W 3 ((cs.drop 1).take (Try.prog.cellsOf 3)) := by
      exact h.field Try.underlying68 1 _ rfl
    rwa [show Try.prog.cellsOf 3 = 1 by kernel_rfl] at h_
  obtain ⟨x1, e1, b1⟩ := h1.int Try.underlying3
  have h2 : Rdb enc Try.prog W 3 ((cs.drop 2).take 1) := by
    have h_ : Rdb enc Try.prog W 3 ((cs.drop 2).take (Try.prog.cellsOf 3)) := by
      exact h.field Try.underlying68 2 _ rfl
    rwa [show Try.prog.cellsOf 3 = 1 by kernel_rfl] at h_
  obtain ⟨x2, e2, b2⟩ := h2.int Try.underlying3
  have h3 : Rdb enc Try.prog W 3 ((cs.drop 3).take 1) := by
    have h_ : Rdb enc Try.prog W 3 ((cs.drop 3).take (Try.prog.cellsOf 3)) := by
      exact h.field Try.underlying68 3 _ rfl
    rwa [show Try.prog.cellsOf 3 = 1 by kernel_rfl] at h_
  obtain ⟨x3, e3, b3⟩ := h3.int Try.underlying3
  have hI : LP.I64s [x0, x1, x2, x3] := by
    intro x hx
    simp only [List.mem_cons, List.not_mem_nil, or_false] at hx
    rcases hx with rfl | rfl | rfl | rfl <;> assumption
  have hc : cs = [.int .i64 x0, .int .i64 x1, .int .i64 x2, .int .i64 x3] := (List.drop_zero (l := cs)).symm.trans (by rw [cut_next (m := 1) e0 rfl, cut_next (m := 2) e1 rfl, cut_next (m := 3) e2 rfl, cut_next (m := 4) e3 rfl, cut_end (m := 4) (by rw [h.len Try.underlying68]; kernel_rfl)]; rfl)
  exact ⟨x0, x1, x2, x3, hc, hI⟩
theorem open_T66 {H : Type} {enc : TypeId × Value → H} {W : World} {cs : List Value} (h : Rdb enc Try.prog W 66 cs) : ∃ (x0 : Int) (x1 : Int) (x2 : Int) (x3 : Int) (x4 : Int) (x5 : Int) (x6 : Int) (x7 : Int) (x8 : Int) (x9 : Int) (x10 : Int) (x11 : Int) (x12 : Int) (v13 : Value) (l13 : List Cq), cs = [.int .i64 x0, .int .i64 x1, .int .i64 x2, .int .i64 x3, .int .i64 x4, .int .i64 x5, .int .i64 x6, .int .i64 x7, .int .i64 x8, .int .i64 x9, .int .i64 x10, .int .i64 x11, .int .i64 x12, v13] ∧ (LP.I64s [x0, x1, x2, x3, x4, x5, x6, x7, x8, x9, x10, x11, x12]) ∧ (Elt W v13 4 (l13.map Cq.cells)) ∧ (∀ a ∈ l13, (fun _ => True) a) := by
  have h0 : Rdb enc Try.prog W 3 ((cs.drop 0).take 1) := by
    have h_ : Rdb enc Try.prog W 3 ((cs.drop 0).take (Try.prog.cellsOf 3)) := by
      exact h.field Try.underlying66 0 _ rfl
    rwa [show Try.prog.cellsOf 3 = 1 by kernel_rfl] at h_
  obtain ⟨x0, e0, b0⟩ := h0.int Try.underlying3
  have h1 : Rdb enc Try.prog W 3 ((cs.drop 1).take 1) := by
    have h_ : Rdb enc Try.prog W 3 ((cs.drop 1).take (Try.prog.cellsOf 3)) := by
      exact h.field Try.underlying66 1 _ rfl
    rwa [show Try.prog.cellsOf 3 = 1 by kernel_rfl] at h_
  obtain ⟨x1, e1, b1⟩ := h1.int Try.underlying3
  have h2 : Rdb enc Try.prog W 3 ((cs.drop 2).take 1) := by
    have h_ : Rdb enc Try.prog W 3 ((cs.drop 2).take (Try.prog.cellsOf 3)) := by
      exact h.field Try.underlying66 2 _ rfl
    rwa [show Try.prog.cellsOf 3 = 1 by kernel_rfl] at h_
  obtain ⟨x2, e2, b2⟩ := h2.int Try.underlying3
  have h3 : Rdb enc Try.prog W 3 ((cs.drop 3).take 1) := by
    have h_ : Rdb enc Try.prog W 3 ((cs.drop 3).take (Try.prog.cellsOf 3)) := by
      exact h.field Try.underlying66 3 _ rfl
    rwa [show Try.prog.cellsOf 3 = 1 by kernel_rfl] at h_
  obtain ⟨x3, e3, b3⟩ := h3.int Try.underlying3
  have h4 : Rdb enc Try.prog W 3 ((cs.drop 4).take 1) := by
    have h_ : Rdb enc Try.prog W 3 ((cs.drop 4).take (Try.prog.cellsOf 3)) := by
      exact h.field Try.underlying66 4 _ rfl
    rwa [show Try.prog.cellsOf 3 = 1 by kernel_rfl] at h_
  obtain ⟨x4, e4, b4⟩ := h4.int Try.underlying3
  have h5 : Rdb enc Try.prog W 3 ((cs.drop 5).take 1) := by
    have h_ : Rdb enc Try.prog W 3 ((cs.drop 5).take (Try.prog.cellsOf 3)) := by
      exact h.field Try.underlying66 5 _ rfl
    rwa [show Try.prog.cellsOf 3 = 1 by kernel_rfl] at h_
  obtain ⟨x5, e5, b5⟩ := h5.int Try.underlying3
  have h6 : Rdb enc Try.prog W 61 ((cs.drop 6).take 7) := by
    have h_ : Rdb enc Try.prog W 61 ((cs.drop 6).take (Try.prog.cellsOf 61)) := by
      exact h.field Try.underlying66 6 _ rfl
    rwa [show Try.prog.cellsOf 61 = 7 by kernel_rfl] at h_
  obtain ⟨x6, x7, x8, x9, x10, x11, x12, e6, hI_6⟩ := open_T61 h6
  have b6 : LP.I64 x6 := hI_6 _ (by simp)
  have b7 : LP.I64 x7 := hI_6 _ (by simp)
  have b8 : LP.I64 x8 := hI_6 _ (by simp)
  have b9 : LP.I64 x9 := hI_6 _ (by simp)
  have b10 : LP.I64 x10 := hI_6 _ (by simp)
  have b11 : LP.I64 x11 := hI_6 _ (by simp)
  have b12 : LP.I64 x12 := hI_6 _ (by simp)
  have h7 : Rdb enc Try.prog W 64 ((cs.drop 13).take 1) := by
    have h_ : Rdb enc Try.prog W 64 ((cs.drop 13).take (Try.prog.cellsOf 64)) := by
      exact h.field Try.underlying66 7 _ rfl
    rwa [show Try.prog.cellsOf 64 = 1 by kernel_rfl] at h_
  obtain ⟨v13, m13, e7, E13, r13⟩ := h7.slice 4 (by decide) Try.underlying64 (by kernel_rfl)
  obtain ⟨l13, rfl, q13⟩ := lift_map (f := Cq.cells) (Q := fun _ => True) fun b hb => (by obtain ⟨x0, x1, x2, x3, e_, FhI⟩ := open_T68 (r13 b hb); exact ⟨⟨x0, x1, x2, x3⟩, e_, trivial⟩)
  have hI : LP.I64s [x0, x1, x2, x3, x4, x5, x6, x7, x8, x9, x10, x11, x12] := by
    intro x hx
    simp only [List.mem_cons, List.not_mem_nil, or_false] at hx
    rcases hx with rfl | rfl | rfl | rfl | rfl | rfl | rfl | rfl | rfl | rfl | rfl | rfl | rfl <;> assumption
  have hc : cs = [.int .i64 x0, .int .i64 x1, .int .i64 x2, .int .i64 x3, .int .i64 x4, .int .i64 x5, .int .i64 x6, .int .i64 x7, .int .i64 x8, .int .i64 x9, .int .i64 x10, .int .i64 x11, .int .i64 x12, v13] := (List.drop_zero (l := cs)).symm.trans (by rw [cut_next (m := 1) e0 rfl, cut_next (m := 2) e1 rfl, cut_next (m := 3) e2 rfl, cut_next (m := 4) e3 rfl, cut_next (m := 5) e4 rfl, cut_next (m := 6) e5 rfl, cut_next (m := 13) e6 rfl, cut_next (m := 14) e7 rfl, cut_end (m := 14) (by rw [h.len Try.underlying66]; kernel_rfl)]; rfl)
  exact ⟨x0, x1, x2, x3, x4, x5, x6, x7, x8, x9, x10, x11, x12, v13, l13, hc, hI, E13, q13⟩
theorem open_T25 {H : Type} {enc : TypeId × Value → H} {W : World} {cs : List Value} (h : Rdb enc Try.prog W 25 cs) : ∃ (x0 : Int) (x1 : Int) (x2 : Int) (x3 : Nat) (v4 : Value) (l4 : List Svc), cs = [.int .i64 x0, .int .i64 x1, .int .i64 x2, .int .u64 (x3 : Int), v4] ∧ (LP.I64s [x0, x1, x2]) ∧ (x3 < 18446744073709551616) ∧ (Elt W v4 14 (l4.map Svc.cells)) ∧ (∀ a ∈ l4, (fun _ => True) a) := by
  have h0 : Rdb enc Try.prog W 3 ((cs.drop 0).take 1) := by
    have h_ : Rdb enc Try.prog W 3 ((cs.drop 0).take (Try.prog.cellsOf 3)) := by
      exact h.field Try.underlying25 0 _ rfl
    rwa [show Try.prog.cellsOf 3 = 1 by kernel_rfl] at h_
  obtain ⟨x0, e0, b0⟩ := h0.int Try.underlying3
  have h1 : Rdb enc Try.prog W 3 ((cs.drop 1).take 1) := by
    have h_ : Rdb enc Try.prog W 3 ((cs.drop 1).take (Try.prog.cellsOf 3)) := by
      exact h.field Try.underlying25 1 _ rfl
    rwa [show Try.prog.cellsOf 3 = 1 by kernel_rfl] at h_
  obtain ⟨x1, e1, b1⟩ := h1.int Try.underlying3
  have h2 : Rdb enc Try.prog W 3 ((cs.drop 2).take 1) := by
    have h_ : Rdb enc Try.prog W 3 ((cs.drop 2).take (Try.prog.cellsOf 3)) := by
      exact h.field Try.underlying25 2 _ rfl
    rwa [show Try.prog.cellsOf 3 = 1 by kernel_rfl] at h_
  obtain ⟨x2, e2, b2⟩ := h2.int Try.underlying3
  have h3 : Rdb enc Try.prog W 22 ((cs.drop 3).take 1) := by
    have h_ : Rdb enc Try.prog W 22 ((cs.drop 3).take (Try.prog.cellsOf 22)) := by
      exact h.field Try.underlying25 3 _ rfl
    rwa [show Try.prog.cellsOf 22 = 1 by kernel_rfl] at h_
  obtain ⟨x3, e3, b3⟩ := h3.u64 Try.underlying22
  have h4 : Rdb enc Try.prog W 23 ((cs.drop 4).take 1) := by
    have h_ : Rdb enc Try.prog W 23 ((cs.drop 4).take (Try.prog.cellsOf 23)) := by
      exact h.field Try.underlying25 4 _ rfl
    rwa [show Try.prog.cellsOf 23 = 1 by kernel_rfl] at h_
  obtain ⟨v4, m4, e4, E4, r4⟩ := h4.slice 14 (by decide) Try.underlying23 (by kernel_rfl)
  obtain ⟨l4, rfl, q4⟩ := lift_map (f := Svc.cells) (Q := fun _ => True) fun b hb => (by obtain ⟨x0, x1, x2, x3, x4, x5, x6, x7, x8, x9, x10, x11, x12, v13, l13, e_, FhI, FE13, Fq13⟩ := open_T66 (r4 b hb); exact ⟨⟨x0, x1, x2, x3, x4, x5, x6, x7, x8, x9, x10, x11, x12, v13, elt_one FE13⟩, e_, trivial⟩)
  have hI : LP.I64s [x0, x1, x2] := by
    intro x hx
    simp only [List.mem_cons, List.not_mem_nil, or_false] at hx
    rcases hx with rfl | rfl | rfl <;> assumption
  have hc : cs = [.int .i64 x0, .int .i64 x1, .int .i64 x2, .int .u64 (x3 : Int), v4] := (List.drop_zero (l := cs)).symm.trans (by rw [cut_next (m := 1) e0 rfl, cut_next (m := 2) e1 rfl, cut_next (m := 3) e2 rfl, cut_next (m := 4) e3 rfl, cut_next (m := 5) e4 rfl, cut_end (m := 5) (by rw [h.len Try.underlying25]; kernel_rfl)]; rfl)
  exact ⟨x0, x1, x2, x3, v4, l4, hc, hI, b3, E4, q4⟩
theorem open_T45 {H : Type} {enc : TypeId × Value → H} {W : World} {cs : List Value} (h : Rdb enc Try.prog W 45 cs) : ∃ (x0 : Int) (x1 : Int) (x2 : Int) (x3 : Int) (x4 : Int) (x5 : Int) (x6 : Int), cs = [.int .i64 x0, .int .i64 x1, .int .i64 x2, .int .i64 x3, .int .i64 x4, .int .i64 x5, .int .i64 x6] ∧ (LP.I64s [x0, x1, x2, x3, x4, x5, x6]) := by
  have h0 : Rdb enc Try.prog W 3 ((cs.drop 0).take 1) := by
    have h_ : Rdb enc Try.prog W 3 ((cs.drop 0).take (Try.prog.cellsOf 3)) := by
      exact h.field Try.underlying45 0 _ rfl
    rwa [show Try.prog.cellsOf 3 = 1 by kernel_rfl] at h_
  obtain ⟨x0, e0, b0⟩ := h0.int Try.underlying3
  have h1 : Rdb enc Try.prog W 3 ((cs.drop 1).take 1) := by
    have h_ : Rdb enc Try.prog W 3 ((cs.drop 1).take (Try.prog.cellsOf 3)) := by
      exact h.field Try.underlying45 1 _ rfl
    rwa [show Try.prog.cellsOf 3 = 1 by kernel_rfl] at h_
  obtain ⟨x1, e1, b1⟩ := h1.int Try.underlying3
  have h2 : Rdb enc Try.prog W 3 ((cs.drop 2).take 1) := by
    have h_ : Rdb enc Try.prog W 3 ((cs.drop 2).take (Try.prog.cellsOf 3)) := by
      exact h.field Try.underlying45 2 _ rfl
    rwa [show Try.prog.cellsOf 3 = 1 by kernel_rfl] at h_
  obtain ⟨x2, e2, b2⟩ := h2.int Try.underlying3
  have h3 : Rdb enc Try.prog W 3 ((cs.drop 3).take 1) := by
    have h_ : Rdb enc Try.prog W 3 ((cs.drop 3).take (Try.prog.cellsOf 3)) := by
      exact h.field Try.underlying45 3 _ rfl
    rwa [show Try.prog.cellsOf 3 = 1 by kernel_rfl] at h_
  obtain ⟨x3, e3, b3⟩ := h3.int Try.underlying3
  have h4 : Rdb enc Try.prog W 3 ((cs.drop 4).take 1) := by
    have h_ : Rdb enc Try.prog W 3 ((cs.drop 4).take (Try.prog.cellsOf 3)) := by
      exact h.field Try.underlying45 4 _ rfl
    rwa [show Try.prog.cellsOf 3 = 1 by kernel_rfl] at h_
  obtain ⟨x4, e4, b4⟩ := h4.int Try.underlying3
  have h5 : Rdb enc Try.prog W 3 ((cs.drop 5).take 1) := by
    have h_ : Rdb enc Try.prog W 3 ((cs.drop 5).take (Try.prog.cellsOf 3)) := by
      exact h.field Try.underlying45 5 _ rfl
    rwa [show Try.prog.cellsOf 3 = 1 by kernel_rfl] at h_
  obtain ⟨x5, e5, b5⟩ := h5.int Try.underlying3
  have h6 : Rdb enc Try.prog W 3 ((cs.drop 6).take 1) := by
    have h_ : Rdb enc Try.prog W 3 ((cs.drop 6).take (Try.prog.cellsOf 3)) := by
      exact h.field Try.underlying45 6 _ rfl
    rwa [show Try.prog.cellsOf 3 = 1 by kernel_rfl] at h_
  obtain ⟨x6, e6, b6⟩ := h6.int Try.underlying3
  have hI : LP.I64s [x0, x1, x2, x3, x4, x5, x6] := by
    intro x hx
    simp only [List.mem_cons, List.not_mem_nil, or_false] at hx
    rcases hx with rfl | rfl | rfl | rfl | rfl | rfl | rfl <;> assumption
  have hc : cs = [.int .i64 x0, .int .i64 x1, .int .i64 x2, .int .i64 x3, .int .i64 x4, .int .i64 x5, .int .i64 x6] := (List.drop_zero (l := cs)).symm.trans (by rw [cut_next (m := 1) e0 rfl, cut_next (m := 2) e1 rfl, cut_next (m := 3) e2 rfl, cut_next (m := 4) e3 rfl, cut_next (m := 5) e4 rfl, cut_next (m := 6) e5 rfl, cut_next (m := 7) e6 rfl, cut_end (m := 7) (by rw [h.len Try.underlying45]; kernel_rfl)]; rfl)
  exact ⟨x0, x1, x2, x3, x4, x5, x6, hc, hI⟩
theorem open_T27 {H : Type} {enc : TypeId × Value → H} {W : World} {cs : List Value} (h : Rdb enc Try.prog W 27 cs) : ∃ (x0 : Int) (x1 : Int) (x2 : Int) (x3 : Int), cs = [.int .i64 x0, .int .i64 x1, .int .i64 x2, .int .i64 x3] ∧ (LP.I64s [x0, x1, x2, x3]) := by
  have h0 : Rdb enc Try.prog W 3 ((cs.drop 0).take 1) := by
    have h_ : Rdb enc Try.prog W 3 ((cs.drop 0).take (Try.prog.cellsOf 3)) := by
      have h2_ := h.at Try.underlying27 0 (by decide); rwa [show 0 * Try.prog.cellsOf 3 = 0 by kernel_rfl] at h2_
    rwa [show Try.prog.cellsOf 3 = 1 by kernel_rfl] at h_
  obtain ⟨x0, e0, b0⟩ := h0.int Try.underlying3
  have h1 : Rdb enc Try.prog W 3 ((cs.drop 1).take 1) := by
    have h_ : Rdb enc Try.prog W 3 ((cs.drop 1).take (Try.prog.cellsOf 3)) := by
      have h2_ := h.at Try.underlying27 1 (by decide); rwa [show 1 * Try.prog.cellsOf 3 = 1 by kernel_rfl] at h2_
    rwa [show Try.prog.cellsOf 3 = 1 by kernel_rfl] at h_
  obtain ⟨x1, e1, b1⟩ := h1.int Try.underlying3
  have h2 : Rdb enc Try.prog W 3 ((cs.drop 2).take 1) := by
    have h_ : Rdb enc Try.prog W 3 ((cs.drop 2).take (Try.prog.cellsOf 3)) := by
      have h2_ := h.at Try.underlying27 2 (by decide); rwa [show 2 * Try.prog.cellsOf 3 = 2 by kernel_rfl] at h2_
    rwa [show Try.prog.cellsOf 3 = 1 by kernel_rfl] at h_
  obtain ⟨x2, e2, b2⟩ := h2.int Try.underlying3
  have h3 : Rdb enc Try.prog W 3 ((cs.drop 3).take 1) := by
    have h_ : Rdb enc Try.prog W 3 ((cs.drop 3).take (Try.prog.cellsOf 3)) := by
      have h2_ := h.at Try.underlying27 3 (by decide); rwa [show 3 * Try.prog.cellsOf 3 = 3 by kernel_rfl] at h2_
    rwa [show Try.prog.cellsOf 3 = 1 by kernel_rfl] at h_
  obtain ⟨x3, e3, b3⟩ := h3.int Try.underlying3
  have hI : LP.I64s [x0, x1, x2, x3] := by
    intro x hx
    simp only [List.mem_cons, List.not_mem_nil, or_false] at hx
    rcases hx with rfl | rfl | rfl | rfl <;> assumption
  have hc : cs = [.int .i64 x0, .int .i64 x1, .int .i64 x2, .int .i64 x3] := (List.drop_zero (l := cs)).symm.trans (by rw [cut_next (m := 1) e0 rfl, cut_next (m := 2) e1 rfl, cut_next (m := 3) e2 rfl, cut_next (m := 4) e3 rfl, cut_end (m := 4) (by rw [h.alen Try.underlying27]; kernel_rfl)]; rfl)
  exact ⟨x0, x1, x2, x3, hc, hI⟩
set_option maxRecDepth 100000 in
theorem shedReads_lifted (os : Os) (started : os.Started) (H : Type) (enc : TypeId × Value → H) :
    ReturnsInHanded {} Try.checked os 3 .any (Rows.shedReadsSpec.pre6 enc Try.prog Try.f3 Rows.shedReadsRow.domain false) (Rows.shedReadsSpec.post enc Try.prog Try.f3 false true false false) := by
  refine returnsInHanded_of_change (C := Try.checked) Try.own started (by kernel_rfl) Try.func3
    (ChangeSpec.witness6 (enc := enc) (C := Try.checked) false ⟨#[], #[.agg #[.int .i64 0, .int .i64 0, .int .i64 0, .int .u64 0, .slice none 0 0], .slice none 0 0, .agg #[.int .i64 0, .int .i64 0, .int .i64 0, .int .i64 0]], []⟩ 8 (by kernel_rfl) (by kernel_rfl) (by kernel_rfl) (by kernel_rfl)) ?_
  intro W base args ds gs before hval0 hW _ _
  have hval : ∀ (j : Nat) t v, Try.f3.params[j]? = some t → args[j]? = some v → Value.okWide Try.prog W .any base t v := hval0
  have hW' := hW
  obtain ⟨p, q, hA0, hV, rfl, hfz, hnd⟩ := hW
  have hA : DataW.TrodAll enc Try.prog W 0 (fun _ => true) true Try.f3.params.toList args.toList ds p := hA0
  rw [Try.params3] at hA hval
  obtain ⟨v0, v1, v2, d0, d1, d2, p0, p1, p2, rfl, rfl, rfl, h0, h1, h2⟩ := trodAll_three hA
  obtain ⟨rfl, rfl⟩ := trodVars_none hV
  clear hfz hnd hA0 hval0
  obtain ⟨x0_0, x1_0, x2_0, x3_0, v4_0, l4_0, hc0, hI_0, b3_0, E4_0, q4_0⟩ := open_T25 (Rdb.of h0)
  have hv0 : v0 = .agg #[.int .i64 x0_0, .int .i64 x1_0, .int .i64 x2_0, .int .u64 (x3_0 : Int), v4_0] := by
    obtain ⟨c_, rfl, _⟩ := okWide_struct Try.underlying25 (hval 0 25 v0 rfl rfl)
    exact agg_of hc0
  subst hv0
  obtain ⟨u1, m1, e1, E1, r1⟩ := (Rdb.of h1).slice 7 (by decide) Try.underlying26 (by kernel_rfl)
  obtain rfl := one_of (noagg (okWide_slice Try.underlying26 (hval 1 26 v1 rfl rfl))) e1
  obtain ⟨l1, rfl, q1⟩ := lift_map (f := Ev.cells) (Q := fun _ => True) fun b hb => (by obtain ⟨x0, x1, x2, x3, x4, x5, x6, e_, FhI⟩ := open_T45 (r1 b hb); exact ⟨⟨x0, x1, x2, x3, x4, x5, x6⟩, e_, trivial⟩)
  obtain ⟨x0_2, x1_2, x2_2, x3_2, hc2, hI_2⟩ := open_T27 (Rdb.of h2)
  have hv2 : v2 = .agg #[.int .i64 x0_2, .int .i64 x1_2, .int .i64 x2_2, .int .i64 x3_2] := by
    obtain ⟨c_, rfl, _⟩ := okWide_array Try.underlying27 (hval 2 27 v2 rfl rfl)
    exact agg_of hc2
  subst hv2
  refine (Tri.law (l43_ShedReads x0_0 x1_0 x2_0 x3_0 v4_0 l4_0 v1 l1 x0_2 x1_2 x2_2 x3_2) W (by intro A hA; simp only [List.mem_cons, List.not_mem_nil, or_false] at hA; rcases hA with rfl | rfl <;> first | exact E4_0 | exact E1)).mono fun e W' ⟨he, hb⟩ => ?_
  subst he
  exact ⟨_, rfl, post_true Try.laidOut hW' rfl rfl rfl Try.underlying4 (by rw [Try.params3]; exact List.forall_mem_cons.2 ⟨⟨by kernel_rfl, of_decide_eq_true (by kernel_rfl)⟩, List.forall_mem_cons.2 ⟨⟨by kernel_rfl, of_decide_eq_true (by kernel_rfl)⟩, List.forall_mem_cons.2 ⟨⟨by kernel_rfl, of_decide_eq_true (by kernel_rfl)⟩, List.forall_mem_nil _⟩⟩⟩) hb⟩

theorem shedReads_holds : Rows.ShedReadsSaid :=
  OpenClaim.holds_of_wide 3 Try.f3 rfl rfl rfl rfl rfl rfl rfl ⟨rfl, rfl, rfl, rfl, rfl⟩ rfl rfl rfl rfl rfl (by kernel_rfl) Try.func3 (by kernel_rfl)
    (of_decide_eq_true (by kernel_rfl)) (by unfold Func.isWrapper; rw [if_neg (of_decide_eq_false (by kernel_rfl))]; exact ⟨rfl, rfl⟩)
    (fun os started H enc _ => shedReads_lifted os started H enc)

end Go.Proofs.Ytdnalilglacjbaa
