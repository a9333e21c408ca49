/-
  NodeNobody: from the walk to the row and its card.
-/
import Derived.Test.YtohjlkjhpibkmaaGreatDoorNodeNobodyK1
import Derived.Test.YtohjlkjhpibkmaaGreatDoorNodeNobodyK2
import Derived.Test.YtohjlkjhpibkmaaGreatDoorNodeNobodyK3
import Derived.Test.YtohjlkjhpibkmaaGreatDoorNodeNobodyK4
import Derived.Test.YtohjlkjhpibkmaaGreatDoorNX2
import Derived.ProofKit
namespace Go.Proofs.YtohjlkjhpibkmaaGreatDoor
open Go Go.LK Go.ChangeShapes Go.WideShapes Go.ChangeAt Go.RowKit

theorem open_T41 {H : Type} {enc : TypeId × Value → H} {W : World} {cs : List Value} (h : Rdb enc Tryz.prog W 41 cs) : ∃ (x0 : Int) (x1 : Int) (x2 : Int) (x3 : Int) (x4 : Int) (x5 : Int), cs = [.int .i64 x0, .int .i64 x1, .int .i64 x2, .int .i64 x3, .int .i64 x4, .int .i64 x5] ∧ (LP.I64s [x0, x1, x2, x3, x4, x5]) := by
  have h0 : Rdb enc Tryz.prog W 3 ((cs.drop 0).take 1) := by
    have h_ : Rdb enc Tryz.prog W 3 ((cs.drop 0).take (Tryz.prog.cellsOf 3)) := by
      exact h.field Tryz.underlying41 0 _ rfl
    rwa [show Tryz.prog.cellsOf 3 = 1 by kernel_rfl] at h_
  obtain ⟨x0, e0, b0⟩ := h0.int Tryz.underlying3
  have h1 : Rdb enc Tryz.prog W 3 ((cs.drop 1).take 1) := by
    have h_ : Rdb enc Tryz.prog W 3 ((cs.drop 1).take (Tryz.prog.cellsOf 3)) := by
      exact h.field Tryz.underlying41 1 _ rfl
    rwa [show Tryz.prog.cellsOf 3 = 1 by kernel_rfl] at h_
  obtain ⟨x1, e1, b1⟩ := h1.int Tryz.underlying3
  have h2 : Rdb enc Tryz.prog W 3 ((cs.drop 2).take 1) := by
    have h_ : Rdb enc Tryz.prog W 3 ((cs.drop 2).take (Tryz.prog.cellsOf 3)) := by
      exact h.field Tryz.underlying41 2 _ rfl
    rwa [show Tryz.prog.cellsOf 3 = 1 by kernel_rfl] at h_
  obtain ⟨x2, e2, b2⟩ := h2.int Tryz.underlying3
  have h3 : Rdb enc Tryz.prog W 3 ((cs.drop 3).take 1) := by
    have h_ : Rdb enc Tryz.prog W 3 ((cs.drop 3).take (Tryz.prog.cellsOf 3)) := by
      exact h.field Tryz.underlying41 3 _ rfl
    rwa [show Tryz.prog.cellsOf 3 = 1 by kernel_rfl] at h_
  obtain ⟨x3, e3, b3⟩ := h3.int Tryz.underlying3
  have h4 : Rdb enc Tryz.prog W 3 ((cs.drop 4).take 1) := by
    have h_ : Rdb enc Tryz.prog W 3 ((cs.drop 4).take (Tryz.prog.cellsOf 3)) := by
      exact h.field Tryz.underlying41 4 _ rfl
    rwa [show Tryz.prog.cellsOf 3 = 1 by kernel_rfl] at h_
  obtain ⟨x4, e4, b4⟩ := h4.int Tryz.underlying3
  have h5 : Rdb enc Tryz.prog W 3 ((cs.drop 5).take 1) := by
    have h_ : Rdb enc Tryz.prog W 3 ((cs.drop 5).take (Tryz.prog.cellsOf 3)) := by
      exact h.field Tryz.underlying41 5 _ rfl
    rwa [show Tryz.prog.cellsOf 3 = 1 by kernel_rfl] at h_
  obtain ⟨x5, e5, b5⟩ := h5.int Tryz.underlying3
  have hI : LP.I64s [x0, x1, x2, x3, x4, x5] := by
    intro x hx
    simp only [List.mem_cons, List.not_mem_nil, or_false] at hx
    rcases hx with rfl | rfl | rfl | rfl | rfl | rfl <;> assumption
  have hc : cs = [.int .i64 x0, .int .i64 x1, .int .i64 x2, .int .i64 x3, .int .i64 x4, .int .i64 x5] := (List.drop_zero (l := cs)).symm.trans (by rw [cut_next (m := 1) e0 rfl, cut_next (m := 2) e1 rfl, cut_next (m := 3) e2 rfl, cut_next (m := 4) e3 rfl, cut_next (m := 5) e4 rfl, cut_next (m := 6) e5 rfl, cut_end (m := 6) (by rw [h.len Tryz.underlying41]; kernel_rfl)]; rfl)
  exact ⟨x0, x1, x2, x3, x4, x5, hc, hI⟩
theorem open_T43 {H : Type} {enc : TypeId × Value → H} {W : World} {cs : List Value} (h : Rdb enc Tryz.prog W 43 cs) : ∃ (x0 : Int) (x1 : Int) (x2 : Int) (x3 : Int) (x4 : Int) (x5 : Int) (x6 : Int), cs = [.int .i64 x0, .int .i64 x1, .int .i64 x2, .int .i64 x3, .int .i64 x4, .int .i64 x5, .int .i64 x6] ∧ (LP.I64s [x0, x1, x2, x3, x4, x5, x6]) := by
  have h0 : Rdb enc Tryz.prog W 3 ((cs.drop 0).take 1) := by
    have h_ : Rdb enc Tryz.prog W 3 ((cs.drop 0).take (Tryz.prog.cellsOf 3)) := by
      exact h.field Tryz.underlying43 0 _ rfl
    rwa [show Tryz.prog.cellsOf 3 = 1 by kernel_rfl] at h_
  obtain ⟨x0, e0, b0⟩ := h0.int Tryz.underlying3
  have h1 : Rdb enc Tryz.prog W 3 ((cs.drop 1).take 1) := by
    have h_ : Rdb enc Tryz.prog W 3 ((cs.drop 1).take (Tryz.prog.cellsOf 3)) := by
      exact h.field Tryz.underlying43 1 _ rfl
    rwa [show Tryz.prog.cellsOf 3 = 1 by kernel_rfl] at h_
  obtain ⟨x1, e1, b1⟩ := h1.int Tryz.underlying3
  have h2 : Rdb enc Tryz.prog W 3 ((cs.drop 2).take 1) := by
    have h_ : Rdb enc Tryz.prog W 3 ((cs.drop 2).take (Tryz.prog.cellsOf 3)) := by
      exact h.field Tryz.underlying43 2 _ rfl
    rwa [show Tryz.prog.cellsOf 3 = 1 by kernel_rfl] at h_
  obtain ⟨x2, e2, b2⟩ := h2.int Tryz.underlying3
  have h3 : Rdb enc Tryz.prog W 3 ((cs.drop 3).take 1) := by
    have h_ : Rdb enc Tryz.prog W 3 ((cs.drop 3).take (Tryz.prog.cellsOf 3)) := by
      exact h.field Tryz.underlying43 3 _ rfl
    rwa [show Tryz.prog.cellsOf 3 = 1 by kernel_rfl] at h_
  obtain ⟨x3, e3, b3⟩ := h3.int Tryz.underlying3
  have h4 : Rdb enc Tryz.prog W 3 ((cs.drop 4).take 1) := by
    have h_ : Rdb enc Tryz.prog W 3 ((cs.drop 4).take (Tryz.prog.cellsOf 3)) := by
      exact h.field Tryz.underlying43 4 _ rfl
    rwa [show Tryz.prog.cellsOf 3 = 1 by kernel_rfl] at h_
  obtain ⟨x4, e4, b4⟩ := h4.int Tryz.underlying3
  have h5 : Rdb enc Tryz.prog W 3 ((cs.drop 5).take 1) := by
    have h_ : Rdb enc Tryz.prog W 3 ((cs.drop 5).take (Tryz.prog.cellsOf 3)) := by
      exact h.field Tryz.underlying43 5 _ rfl
    rwa [show Tryz.prog.cellsOf 3 = 1 by kernel_rfl] at h_
  obtain ⟨x5, e5, b5⟩ := h5.int Tryz.underlying3
  have h6 : Rdb enc Tryz.prog W 3 ((cs.drop 6).take 1) := by
    have h_ : Rdb enc Tryz.prog W 3 ((cs.drop 6).take (Tryz.prog.cellsOf 3)) := by
      exact h.field Tryz.underlying43 6 _ rfl
    rwa [show Tryz.prog.cellsOf 3 = 1 by kernel_rfl] at h_
  obtain ⟨x6, e6, b6⟩ := h6.int Tryz.underlying3
  have hI : LP.I64s [x0, x1, x2, x3, x4, x5, x6] := by
    intro x hx
    simp only [List.mem_cons, List.not_mem_nil, or_false] at hx
    rcases hx with rfl | rfl | rfl | rfl | rfl | rfl | rfl <;> assumption
  have hc : cs = [.int .i64 x0, .int .i64 x1, .int .i64 x2, .int .i64 x3, .int .i64 x4, .int .i64 x5, .int .i64 x6] := (List.drop_zero (l := cs)).symm.trans (by rw [cut_next (m := 1) e0 rfl, cut_next (m := 2) e1 rfl, cut_next (m := 3) e2 rfl, cut_next (m := 4) e3 rfl, cut_next (m := 5) e4 rfl, cut_next (m := 6) e5 rfl, cut_next (m := 7) e6 rfl, cut_end (m := 7) (by rw [h.len Tryz.underlying43]; kernel_rfl)]; rfl)
  exact ⟨x0, x1, x2, x3, x4, x5, x6, hc, hI⟩
theorem open_T45 {H : Type} {enc : TypeId × Value → H} {W : World} {cs : List Value} (h : Rdb enc Tryz.prog W 45 cs) : ∃ (x0 : Int) (x1 : Int) (x2 : Int) (x3 : Int) (x4 : Int) (x5 : Int) (x6 : Int), cs = [.int .i64 x0, .int .i64 x1, .int .i64 x2, .int .i64 x3, .int .i64 x4, .int .i64 x5, .int .i64 x6] ∧ (LP.I64s [x0, x1, x2, x3, x4, x5, x6]) := by
  have h0 : Rdb enc Tryz.prog W 3 ((cs.drop 0).take 1) := by
    have h_ : Rdb enc Tryz.prog W 3 ((cs.drop 0).take (Tryz.prog.cellsOf 3)) := by
      exact h.field Tryz.underlying45 0 _ rfl
    rwa [show Tryz.prog.cellsOf 3 = 1 by kernel_rfl] at h_
  obtain ⟨x0, e0, b0⟩ := h0.int Tryz.underlying3
  have h1 : Rdb enc Tryz.prog W 3 ((cs.drop 1).take 1) := by
    have h_ : Rdb enc Tryz.prog W 3 ((cs.drop 1).take (Tryz.prog.cellsOf 3)) := by
      exact h.field Tryz.underlying45 1 _ rfl
    rwa [show Tryz.prog.cellsOf 3 = 1 by kernel_rfl] at h_
  obtain ⟨x1, e1, b1⟩ := h1.int Tryz.underlying3
  have h2 : Rdb enc Tryz.prog W 3 ((cs.drop 2).take 1) := by
    have h_ : Rdb enc Tryz.prog W 3 ((cs.drop 2).take (Tryz.prog.cellsOf 3)) := by
      exact h.field Tryz.underlying45 2 _ rfl
    rwa [show Tryz.prog.cellsOf 3 = 1 by kernel_rfl] at h_
  obtain ⟨x2, e2, b2⟩ := h2.int Tryz.underlying3
  have h3 : Rdb enc Tryz.prog W 3 ((cs.drop 3).take 1) := by
    have h_ : Rdb enc Tryz.prog W 3 ((cs.drop 3).take (Tryz.prog.cellsOf 3)) := by
      exact h.field Tryz.underlying45 3 _ rfl
    rwa [show Tryz.prog.cellsOf 3 = 1 by kernel_rfl] at h_
  obtain ⟨x3, e3, b3⟩ := h3.int Tryz.underlying3
  have h4 : Rdb enc Tryz.prog W 3 ((cs.drop 4).take 1) := by
    have h_ : Rdb enc Tryz.prog W 3 ((cs.drop 4).take (Tryz.prog.cellsOf 3)) := by
      exact h.field Tryz.underlying45 4 _ rfl
    rwa [show Tryz.prog.cellsOf 3 = 1 by kernel_rfl] at h_
  obtain ⟨x4, e4, b4⟩ := h4.int Tryz.underlying3
  have h5 : Rdb enc Tryz.prog W 3 ((cs.drop 5).take 1) := by
    have h_ : Rdb enc Tryz.prog W 3 ((cs.drop 5).take (Tryz.prog.cellsOf 3)) := by
      exact h.field Tryz.underlying45 5 _ rfl
    rwa [show Tryz.prog.cellsOf 3 = 1 by kernel_rfl] at h_
  obtain ⟨x5, e5, b5⟩ := h5.int Tryz.underlying3
  have h6 : Rdb enc Tryz.prog W 3 ((cs.drop 6).take 1) := by
    have h_ : Rdb enc Tryz.prog W 3 ((cs.drop 6).take (Tryz.prog.cellsOf 3)) := by
      exact h.field Tryz.underlying45 6 _ rfl
    rwa [show Tryz.prog.cellsOf 3 = 1 by kernel_rfl] at h_
  obtain ⟨x6, e6, b6⟩ := h6.int Tryz.underlying3
  have hI : LP.I64s [x0, x1, x2, x3, x4, x5, x6] := by
    intro x hx
    simp only [List.mem_cons, List.not_mem_nil, or_false] at hx
    rcases hx with rfl | rfl | rfl | rfl | rfl | rfl | rfl <;> assumption
  have hc : cs = [.int .i64 x0, .int .i64 x1, .int .i64 x2, .int .i64 x3, .int .i64 x4, .int .i64 x5, .int .i64 x6] := (List.drop_zero (l := cs)).symm.trans (by rw [cut_next (m := 1) e0 rfl, cut_next (m := 2) e1 rfl, cut_next (m := 3) e2 rfl, cut_next (m := 4) e3 rfl, cut_next (m := 5) e4 rfl, cut_next (m := 6) e5 rfl, cut_next (m := 7) e6 rfl, cut_end (m := 7) (by rw [h.len Tryz.underlying45]; kernel_rfl)]; rfl)
  exact ⟨x0, x1, x2, x3, x4, x5, x6, hc, hI⟩
theorem open_T47 {H : Type} {enc : TypeId × Value → H} {W : World} {cs : List Value} (h : Rdb enc Tryz.prog W 47 cs) : ∃ (x0 : Int) (x1 : Int) (x2 : Int) (x3 : Int) (x4 : Int) (x5 : Int) (x6 : Int) (x7 : Int) (x8 : Int), cs = [.int .i64 x0, .int .i64 x1, .int .i64 x2, .int .i64 x3, .int .i64 x4, .int .i64 x5, .int .i64 x6, .int .i64 x7, .int .i64 x8] ∧ (LP.I64s [x0, x1, x2, x3, x4, x5, x6, x7, x8]) := by
  have h0 : Rdb enc Tryz.prog W 3 ((cs.drop 0).take 1) := by
    have h_ : Rdb enc Tryz.prog W 3 ((cs.drop 0).take (Tryz.prog.cellsOf 3)) := by
      exact h.field Tryz.underlying47 0 _ rfl
    rwa [show Tryz.prog.cellsOf 3 = 1 by kernel_rfl] at h_
  obtain ⟨x0, e0, b0⟩ := h0.int Tryz.underlying3
  have h1 : Rdb enc Tryz.prog W 3 ((cs.drop 1).take 1) := by
    have h_ : Rdb enc Tryz.prog W 3 ((cs.drop 1).take (Tryz.prog.cellsOf 3)) := by
      exact h.field Tryz.underlying47 1 _ rfl
    rwa [show Tryz.prog.cellsOf 3 = 1 by kernel_rfl] at h_
  obtain ⟨x1, e1, b1⟩ := h1.int Tryz.underlying3
  have h2 : Rdb enc Tryz.prog W 45 ((cs.drop 2).take 7) := by
    have h_ : Rdb enc Tryz.prog W 45 ((cs.drop 2).take (Tryz.prog.cellsOf 45)) := by
      exact h.field Tryz.underlying47 2 _ rfl
    rwa [show Tryz.prog.cellsOf 45 = 7 by kernel_rfl] at h_
  obtain ⟨x2, x3, x4, x5, x6, x7, x8, e2, hI_2⟩ := open_T45 h2
  have b2 : LP.I64 x2 := hI_2 _ (by simp)
  have b3 : LP.I64 x3 := hI_2 _ (by simp)
  have b4 : LP.I64 x4 := hI_2 _ (by simp)
  have b5 : LP.I64 x5 := hI_2 _ (by simp)
  have b6 : LP.I64 x6 := hI_2 _ (by simp)
  have b7 : LP.I64 x7 := hI_2 _ (by simp)
  have b8 : LP.I64 x8 := hI_2 _ (by simp)
  have hI : LP.I64s [x0, x1, x2, x3, x4, x5, x6, x7, x8] := by
    intro x hx
    simp only [List.mem_cons, List.not_mem_nil, or_false] at hx
    rcases hx with rfl | rfl | rfl | rfl | rfl | rfl | rfl | rfl | rfl <;> assumption
  have hc : cs = [.int .i64 x0, .int .i64 x1, .int .i64 x2, .int .i64 x3, .int .i64 x4, .int .i64 x5, .int .i64 x6, .int .i64 x7, .int .i64 x8] := (List.drop_zero (l := cs)).symm.trans (by rw [cut_next (m := 1) e0 rfl, cut_next (m := 2) e1 rfl, cut_next (m := 9) e2 rfl, cut_end (m := 9) (by rw [h.len Tryz.underlying47]; kernel_rfl)]; rfl)
  exact ⟨x0, x1, x2, x3, x4, x5, x6, x7, x8, hc, hI⟩
theorem open_T49 {H : Type} {enc : TypeId × Value → H} {W : World} {cs : List Value} (h : Rdb enc Tryz.prog W 49 cs) : ∃ (x0 : Int) (x1 : Int) (x2 : Int) (x3 : Int) (x4 : Int) (x5 : Int) (x6 : Int) (x7 : Int) (x8 : Int) (x9 : Int) (x10 : Int) (x11 : Int) (x12 : Int) (x13 : Int) (x14 : Int) (x15 : Int) (x16 : Int) (x17 : Int) (x18 : Int) (x19 : Int) (x20 : Int) (x21 : Int) (x22 : Int) (x23 : Int), cs = [.int .i64 x0, .int .i64 x1, .int .i64 x2, .int .i64 x3, .int .i64 x4, .int .i64 x5, .int .i64 x6, .int .i64 x7, .int .i64 x8, .int .i64 x9, .int .i64 x10, .int .i64 x11, .int .i64 x12, .int .i64 x13, .int .i64 x14, .int .i64 x15, .int .i64 x16, .int .i64 x17, .int .i64 x18, .int .i64 x19, .int .i64 x20, .int .i64 x21, .int .i64 x22, .int .i64 x23] ∧ (LP.I64s [x0, x1, x2, x3, x4, x5, x6, x7, x8, x9, x10, x11, x12, x13, x14, x15, x16, x17, x18, x19, x20, x21, x22, x23]) := by
  have h0 : Rdb enc Tryz.prog W 3 ((cs.drop 0).take 1) := by
    have h_ : Rdb enc Tryz.prog W 3 ((cs.drop 0).take (Tryz.prog.cellsOf 3)) := by
      exact h.field Tryz.underlying49 0 _ rfl
    rwa [show Tryz.prog.cellsOf 3 = 1 by kernel_rfl] at h_
  obtain ⟨x0, e0, b0⟩ := h0.int Tryz.underlying3
  have h1 : Rdb enc Tryz.prog W 3 ((cs.drop 1).take 1) := by
    have h_ : Rdb enc Tryz.prog W 3 ((cs.drop 1).take (Tryz.prog.cellsOf 3)) := by
      exact h.field Tryz.underlying49 1 _ rfl
    rwa [show Tryz.prog.cellsOf 3 = 1 by kernel_rfl] at h_
  obtain ⟨x1, e1, b1⟩ := h1.int Tryz.underlying3
  have h2 : Rdb enc Tryz.prog W 41 ((cs.drop 2).take 6) := by
    have h_ : Rdb enc Tryz.prog W 41 ((cs.drop 2).take (Tryz.prog.cellsOf 41)) := by
      exact h.field Tryz.underlying49 2 _ rfl
    rwa [show Tryz.prog.cellsOf 41 = 6 by kernel_rfl] at h_
  obtain ⟨x2, x3, x4, x5, x6, x7, e2, hI_2⟩ := open_T41 h2
  have b2 : LP.I64 x2 := hI_2 _ (by simp)
  have b3 : LP.I64 x3 := hI_2 _ (by simp)
  have b4 : LP.I64 x4 := hI_2 _ (by simp)
  have b5 : LP.I64 x5 := hI_2 _ (by simp)
  have b6 : LP.I64 x6 := hI_2 _ (by simp)
  have b7 : LP.I64 x7 := hI_2 _ (by simp)
  have h3 : Rdb enc Tryz.prog W 43 ((cs.drop 8).take 7) := by
    have h_ : Rdb enc Tryz.prog W 43 ((cs.drop 8).take (Tryz.prog.cellsOf 43)) := by
      exact h.field Tryz.underlying49 3 _ rfl
    rwa [show Tryz.prog.cellsOf 43 = 7 by kernel_rfl] at h_
  obtain ⟨x8, x9, x10, x11, x12, x13, x14, e3, hI_3⟩ := open_T43 h3
  have b8 : LP.I64 x8 := hI_3 _ (by simp)
  have b9 : LP.I64 x9 := hI_3 _ (by simp)
  have b10 : LP.I64 x10 := hI_3 _ (by simp)
  have b11 : LP.I64 x11 := hI_3 _ (by simp)
  have b12 : LP.I64 x12 := hI_3 _ (by simp)
  have b13 : LP.I64 x13 := hI_3 _ (by simp)
  have b14 : LP.I64 x14 := hI_3 _ (by simp)
  have h4 : Rdb enc Tryz.prog W 47 ((cs.drop 15).take 9) := by
    have h_ : Rdb enc Tryz.prog W 47 ((cs.drop 15).take (Tryz.prog.cellsOf 47)) := by
      exact h.field Tryz.underlying49 4 _ rfl
    rwa [show Tryz.prog.cellsOf 47 = 9 by kernel_rfl] at h_
  obtain ⟨x15, x16, x17, x18, x19, x20, x21, x22, x23, e4, hI_4⟩ := open_T47 h4
  have b15 : LP.I64 x15 := hI_4 _ (by simp)
  have b16 : LP.I64 x16 := hI_4 _ (by simp)
  have b17 : LP.I64 x17 := hI_4 _ (by simp)
  have b18 : LP.I64 x18 := hI_4 _ (by simp)
  have b19 : LP.I64 x19 := hI_4 _ (by simp)
  have b20 : LP.I64 x20 := hI_4 _ (by simp)
  have b21 : LP.I64 x21 := hI_4 _ (by simp)
  have b22 : LP.I64 x22 := hI_4 _ (by simp)
  have b23 : LP.I64 x23 := hI_4 _ (by simp)
  have hI : LP.I64s [x0, x1, x2, x3, x4, x5, x6, x7, x8, x9, x10, x11, x12, x13, x14, x15, x16, x17, x18, x19, x20, x21, x22, x23] := by
    intro x hx
    simp only [List.mem_cons, List.not_mem_nil, or_false] at hx
    rcases hx with rfl | rfl | rfl | rfl | rfl | rfl | rfl | rfl | rfl | rfl | rfl | rfl | rfl | rfl | rfl | rfl | rfl | rfl | rfl | rfl | rfl | rfl | rfl | rfl <;> assumption
  have hc : cs = [.int .i64 x0, .int .i64 x1, .int .i64 x2, .int .i64 x3, .int .i64 x4, .int .i64 x5, .int .i64 x6, .int .i64 x7, .int .i64 x8, .int .i64 x9, .int .i64 x10, .int .i64 x11, .int .i64 x12, .int .i64 x13, .int .i64 x14, .int .i64 x15, .int .i64 x16, .int .i64 x17, .int .i64 x18, .int .i64 x19, .int .i64 x20, .int .i64 x21, .int .i64 x22, .int .i64 x23] := (List.drop_zero (l := cs)).symm.trans (by rw [cut_next (m := 1) e0 rfl, cut_next (m := 2) e1 rfl, cut_next (m := 8) e2 rfl, cut_next (m := 15) e3 rfl, cut_next (m := 24) e4 rfl, cut_end (m := 24) (by rw [h.len Tryz.underlying49]; kernel_rfl)]; rfl)
  exact ⟨x0, x1, x2, x3, x4, x5, x6, x7, x8, x9, x10, x11, x12, x13, x14, x15, x16, x17, x18, x19, x20, x21, x22, x23, hc, hI⟩

set_option maxRecDepth 100000 in
theorem nodeNobody_lifted (os : Os) (started : os.Started) (H : Type) (enc : TypeId × Value → H) :
    ReturnsInHanded {} Tryz.checked os 8 .any (fun w args => (Rows.nodeNobodySpec.pre enc Tryz.prog Tryz.f8 [] false w args ∧ laidMetH Tryz.prog laidL w) ∧ sizedMet enc Tryz.prog Tryz.f8 (OpenSpec.ofChange Rows.nodeNobodySpec) false w args) (Rows.nodeNobodySpec.post enc Tryz.prog Tryz.f8 false true false false) := by
  refine law_and_shaped (C := Tryz.checked) (X := fun w _ => laidMetH Tryz.prog laidL w) (fun _ _ _ hh h => h.of_heap hh) Tryz.own started (by kernel_rfl) Tryz.func8
    (ChangeSpec.witness_shaped (enc := enc) (C := Tryz.checked) (os := os) (X := fun w _ => laidMetH Tryz.prog laidL w) false (World.laidAll Tryz.prog os laidL) #[.slice none 0 0] 8 (World.laidAll_os _ _ _) (World.shaped_of_ZipB (by kernel_rfl) (by kernel_rfl)) (by kernel_rfl) (by kernel_rfl) (by kernel_rfl) (door_met os _)) ?_
  intro W base args ds gs before hval0 hW hL hsh
  have hval : ∀ (j : Nat) t v, Tryz.f8.params[j]? = some t → args[j]? = some v → Value.okWide Tryz.prog W .any base t v := hval0
  have hW' := hW
  obtain ⟨p, q, hA0, hV, rfl, hfz, hnd⟩ := hW
  have hA : DataW.TrodAll enc Tryz.prog W 0 (fun _ => true) true Tryz.f8.params.toList args.toList ds p := hA0
  rw [Tryz.params8] at hA hval
  obtain ⟨v0, d0, rfl, rfl, h0⟩ := trodAll_one hA
  obtain ⟨rfl, rfl⟩ := trodVars_none hV
  clear hfz hnd hA0 hval0
  obtain ⟨u0, m0, e0, E0, r0⟩ := (Rdb.of h0).slice 24 (by decide) Tryz.underlying26 (by kernel_rfl)
  obtain rfl := one_of (noagg (okWide_slice Tryz.underlying26 (hval 0 26 v0 rfl rfl))) e0
  obtain ⟨l0, rfl, q0⟩ := lift_map (f := Na.cells) (Q := fun _ => True) fun b hb => (by obtain ⟨x0, x1, x2, x3, x4, x5, x6, x7, x8, x9, x10, x11, x12, x13, x14, x15, x16, x17, x18, x19, x20, x21, x22, x23, e_, FhI⟩ := open_T49 (r0 b hb); exact ⟨⟨x0, x1, x2, x3, x4, x5, x6, x7, x8, x9, x10, x11, x12, x13, x14, x15, x16, x17, x18, x19, x20, x21, x22, x23⟩, e_, trivial⟩)
  refine (Tri.law (law35_nodeNobody v0 l0) W (by intro A hA; simp only [List.mem_cons, List.not_mem_nil, or_false] at hA; subst hA; exact E0)).mono fun e W' ⟨he, hb⟩ => ?_
  subst he
  exact ⟨_, rfl, post_true Tryz.laidOut hW' rfl rfl rfl Tryz.underlying4 (by rw [Tryz.params8]; exact List.forall_mem_cons.2 ⟨⟨by kernel_rfl, of_decide_eq_true (by kernel_rfl)⟩, List.forall_mem_nil _⟩) hb⟩

theorem and2 {a b : Bool} (ha : a = true) (hb : b = true) : (a && b) = true := by rw [ha, hb]; rfl
theorem nodeNobody_k0 : (Rows.nodeNobodyRow.wf (OpenSpec.ofChange Rows.nodeNobodySpec)) = true := by kernel_rfl
theorem nodeNobody_k1 : (laidOutB Tryz.prog) = true := Tryz.laidOut
theorem nodeNobody_k3 : (Tryz.f8.params.all (Tryz.prog.readableRec ·)) = true := by kernel_rfl
theorem nodeNobody_k4 : (namedTie Tryz.prog Rows.nodeNobodyRow.named Rows.nodeNobodySpec.vars) = true := by kernel_rfl
theorem nodeNobody_k5 : (Rows.nodeNobodyRow.stops == []) = true := by kernel_rfl
theorem nodeNobody_k6 : (Tryz.prog.stops == []) = true := by kernel_rfl
theorem nodeNobody_k7 : (Rows.nodeNobodyRow.knobs == []) = true := by kernel_rfl
theorem nodeNobody_k8 : (Tryz.prog.stopKnobs == []) = true := by kernel_rfl
theorem nodeNobody_k13 : (Rows.nodeNobodyRow.maps == (Tryz.f8.params.toList ++ Rows.nodeNobodySpec.plain.varTypes Tryz.prog).any (Tryz.prog.mapsRec ·)) = true := by kernel_rfl
theorem nodeNobody_k14 : (Rows.nodeNobodyRow.ifaces == (Tryz.f8.params.toList ++ Rows.nodeNobodySpec.plain.varTypes Tryz.prog).any (Tryz.prog.ifacesRec ·)) = true := by kernel_rfl
theorem nodeNobody_k15 : (Rows.nodeNobodyRow.mapsOut == Tryz.prog.mapsAmong Tryz.f8.resultTypes.toList) = true := by kernel_rfl
theorem nodeNobody_k16 : (Rows.nodeNobodyRow.loops == (Tryz.f8.params.toList ++ Rows.nodeNobodySpec.plain.varTypes Tryz.prog).any (Tryz.prog.loopsFrom ·)) = true := by kernel_rfl
theorem nodeNobody_k17 : (Rows.nodeNobodyRow.wideKeys == (Tryz.f8.params.toList ++ Rows.nodeNobodySpec.plain.varTypes Tryz.prog ++ Tryz.f8.resultTypes.toList).any (Tryz.prog.wideKeysFrom ·)) = true := by kernel_rfl
theorem nodeNobody_k18 : (Rows.nodeNobodySpec.vars.all (Tryz.prog.varReadable ·)) = true := by kernel_rfl
theorem nodeNobody_k19 : (Tryz.f8.resultTypes.all (fun t => Tryz.prog.readableRec t && decide (t < Tryz.prog.types.size))) = true := by kernel_rfl
theorem nodeNobody_k20 : (Rows.nodeNobodyRow.ifacesOut == Tryz.f8.resultTypes.toList.any (Tryz.prog.ifacesRec ·)) = true := by kernel_rfl
theorem nodeNobody_k21 : (Rows.nodeNobodyRow.loopsOut == Tryz.f8.resultTypes.toList.any (Tryz.prog.loopsFrom ·)) = true := by kernel_rfl
theorem nodeNobody_k23 : (Rows.nodeNobodyRow.shortTexts.isNone) = true := by kernel_rfl
theorem nodeNobody_k28 : (Rows.nodeNobodyRow.kinds == (if Rows.nodeNobodyRow.domain.isEmpty then [] else Tryz.f8.params.toList.map fun t => match Tryz.prog.underlying t with | some (.int k) => some k | _ => none)) = true := by kernel_rfl
theorem nodeNobody_k29 : (Rows.nodeNobodyRow.pinned == Rows.nodeNobodyRow.pinnedBy) = true := by kernel_rfl
theorem nodeNobody_k30 : (Rows.nodeNobodyRow.veiled == (Tryz.f8.params.toList ++ Rows.nodeNobodySpec.plain.varTypes Tryz.prog ++ Tryz.f8.resultTypes.toList).any (Tryz.prog.veiledRec ·)) = true := by kernel_rfl
theorem nodeNobody_k31 : (Rows.nodeNobodyRow.veiledFits Tryz.prog Tryz.f8.params.toList (Tryz.f8.params.toList ++ Rows.nodeNobodySpec.plain.varTypes Tryz.prog ++ Tryz.f8.resultTypes.toList)) = true := by kernel_rfl
set_option maxRecDepth 100000 in
theorem nodeNobody_all : joinedFacts Tryz.prog 8 Tryz.f8 Rows.nodeNobodySpec Rows.nodeNobodyRow = true := by
  unfold joinedFacts
  exact (and2 (and2 (and2 (and2 (and2 (and2 (and2 (and2 (and2 (and2 (and2 (and2 (and2 (and2 (and2 (and2 (and2 (and2 (and2 (and2 (and2 (and2 (and2 (and2 (and2 (and2 (and2 (and2 (and2 (and2 (and2 nodeNobody_k0 nodeNobody_k1) nodeNobody_k2) nodeNobody_k3) nodeNobody_k4) nodeNobody_k5) nodeNobody_k6) nodeNobody_k7) nodeNobody_k8) nodeNobody_k9) nodeNobody_k10) nodeNobody_k11) nodeNobody_k12) nodeNobody_k13) nodeNobody_k14) nodeNobody_k15) nodeNobody_k16) nodeNobody_k17) nodeNobody_k18) nodeNobody_k19) nodeNobody_k20) nodeNobody_k21) nodeNobody_k22) nodeNobody_k23) nodeNobody_k24) nodeNobody_k25) nodeNobody_k26) nodeNobody_k27) nodeNobody_k28) nodeNobody_k29) nodeNobody_k30) nodeNobody_k31)
theorem nodeNobody_holds : Rows.NodeNobodySaid :=
  OpenClaim.holds_of_wide 8 Tryz.f8 rfl rfl rfl rfl rfl rfl rfl ⟨rfl, rfl, rfl, rfl, rfl⟩ rfl rfl rfl rfl rfl nodeNobody_fnm Tryz.func8 nodeNobody_all
    (of_decide_eq_true (by kernel_rfl)) (by unfold Func.isWrapper; first | (rw [if_pos (by decide +kernel)]; kernel_rfl) | (rw [if_neg (by decide +kernel)]; exact ⟨rfl, rfl⟩))
    (fun os started H enc _ => nodeNobody_lifted os started H enc)

theorem nodeNobody_card : Rows.NodeNobodyCardSaid :=
  Claim7.holds_tied_plain_at .later [] [.data, .widerDeep] true (true, "1d7782d94166bd24611b28d86d543569072fb17d21890aae93bda4ab5a4ab09a") false
    nodeNobody_holds (fun _ h => by cases h) (by kernel_rfl) (fun _ h => by cases h) nodeNobody_row_tie rfl ⟨rfl, rfl⟩ nodeNobody_mn rfl
    (fun f fn hf hfn => by
      obtain rfl : f = 8 := Option.some.inj (nodeNobody_fnm.symm.trans hf) |>.symm
      obtain rfl : fn = Tryz.f8 := (Option.some.inj (Tryz.func8.symm.trans hfn)).symm
      exact ⟨nodeNobody_lk, fun j t ht => by
        rw [Tryz.params8] at ht
        have hm : t ∈ [26] := by simpa using Array.mem_of_getElem? ht
        have hall : ([26].all fun u => !Tryz.prog.wantsStandIn u) = true := by kernel_rfl
        exact (show Tryz.prog.wantsStandIn t = false by simpa using List.all_eq_true.1 hall t hm)⟩)
    nodeNobody_gb

end Go.Proofs.YtohjlkjhpibkmaaGreatDoor
