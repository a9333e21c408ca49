/-
  Acts of a service: 24 numbers; what an act upon nobody comes to.
-/
import Derived.Test.YtohjlkjhpibkmaaGreatDoorLkG
namespace Go.LK
open Go Go.RowKit
structure Na where
  kind : Int
  id : Int
  q0 : Int
  q1 : Int
  q2 : Int
  q3 : Int
  q4 : Int
  q5 : Int
  a0 : Int
  a1 : Int
  a2 : Int
  a3 : Int
  a4 : Int
  a5 : Int
  a6 : Int
  p0 : Int
  p1 : Int
  p2 : Int
  p3 : Int
  p4 : Int
  p5 : Int
  p6 : Int
  p7 : Int
  p8 : Int
def Na.cells (x : Na) : List Value := [.int .i64 x.kind, .int .i64 x.id, .int .i64 x.q0, .int .i64 x.q1, .int .i64 x.q2, .int .i64 x.q3, .int .i64 x.q4, .int .i64 x.q5, .int .i64 x.a0, .int .i64 x.a1, .int .i64 x.a2, .int .i64 x.a3, .int .i64 x.a4, .int .i64 x.a5, .int .i64 x.a6, .int .i64 x.p0, .int .i64 x.p1, .int .i64 x.p2, .int .i64 x.p3, .int .i64 x.p4, .int .i64 x.p5, .int .i64 x.p6, .int .i64 x.p7, .int .i64 x.p8]
theorem Na.one {l : List Na} : ∀ a ∈ l, (Na.cells a).all Value.oneCell' = true := fun _ _ => rfl
namespace Nb
/-- What an act upon nobody comes to: there is none; or, if it is no act at all, nothing. -/
def code (k : Int) : Int := if 0 ≤ k ∧ k ≤ 6 then 7 else 0
theorem code_in {k : Int} (h : 0 ≤ k ∧ k ≤ 6) : code k = 7 := if_pos h
theorem code_out {k : Int} (h : ¬(0 ≤ k ∧ k ≤ 6)) : code k = 0 := if_neg h
theorem dead_in {k : Int} (h0 : 0 ≤ k) : ¬ ((decide (code k = 7) != decide (k ≤ 6)) = true) := by
  unfold code
  by_cases h : k ≤ 6 <;> simp [h0, h]
theorem dead_out {k : Int} (h0 : ¬ 0 ≤ k) : ¬ ((decide (code k = 7) != false) = true) := by
  unfold code
  simp [h0]
end Nb
end Go.LK
