/-
  The worlds in which the library's contracts end, in this logic's words.
-/
import Derived.Test.YtohjlkjhpibkmaaGreatDoorLk15
import Derived.Sort.Grow
import Derived.Deep.Draws
import Derived.Lib.ConvBytes
namespace Go.LK
open Go Go.RowKit

theorem Frame.grow {w : World} {os : Array Obj} : Frame w [] (Go.Sort.grow w os) := ⟨rfl, rfl, rfl, by simp [Go.Sort.grow], fun k hk _ => by simp [Go.Sort.grow, Array.getElem?_append, hk]⟩
end Go.LK
