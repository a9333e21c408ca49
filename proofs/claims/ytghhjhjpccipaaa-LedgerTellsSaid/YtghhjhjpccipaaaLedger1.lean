/-
  Tally: its step, case by case.
-/
import Derived.Test.YtghhjhjpccipaaaLedger0
namespace Go.LK
open Go
namespace Ld
theorem bump_at {out : List Int} {i : Nat} {y : Int} (h : out[i]? = some y) : bump out i = out.set i (IntKind.i64.wrap (y + 1)) := by
  unfold bump
  rw [List.getD_eq_getElem?_getD, h]; rfl
theorem tally_open {out : List Int} {k : Nat} {x : Ft} {y : Int} (ho : isOpen x = true) (h : out[0]? = some y) : tallyF out k x = out.set 0 (IntKind.i64.wrap (y + 1)) := by
  unfold tallyF; rw [if_pos ho, bump_at h]
theorem tally_erased {out : List Int} {k : Nat} {x : Ft} {y : Int} (ho : isOpen x = false) (hs : x.state = 5) (h : out[11]? = some y) : tallyF out k x = out.set 11 (IntKind.i64.wrap (y + 1)) := by
  unfold tallyF; rw [if_neg (by simp [ho]), if_pos hs, bump_at h]
theorem tally_over {out : List Int} {k : Nat} {x : Ft} {y : Int} (ho : isOpen x = false) (hs : x.state = 4) (h1 : 1 ≤ x.code) (h2 : x.code ≤ 10) (h : out[x.code.toNat]? = some y) : tallyF out k x = out.set x.code.toNat (IntKind.i64.wrap (y + 1)) := by
  unfold tallyF; rw [if_neg (by simp [ho]), if_neg (by omega), if_pos ⟨hs, h1, h2⟩, bump_at h]
theorem tally_skip {out : List Int} {k : Nat} {x : Ft} (ho : isOpen x = false) (hs : ¬ x.state = 5) (h : ¬ (x.state = 4 ∧ 1 ≤ x.code ∧ x.code ≤ 10)) : tallyF out k x = out := by
  unfold tallyF; rw [if_neg (by simp [ho]), if_neg hs, if_neg h]
end Ld
end Go.LK
