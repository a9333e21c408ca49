/-
  The worlds in which the library's contracts end, in this logic's words.
-/
import Derived.Test.YtnkhmbbnabejhaaGreatDoorLk15
import Derived.Sort.Grow
import Derived.Deep.Draws
import Derived.Lib.ConvBytes
namespace Go.LK
open Go Go.RowKit

theorem Frame.drewN {w : World} {n : Nat} : Frame w [] (w.drewN n) := ⟨rfl, rfl, rfl, Nat.le_refl _, fun _ _ _ => rfl⟩
theorem Frame.grow {w : World} {os : Array Obj} : Frame w [] (Go.Sort.grow w os) := ⟨rfl, rfl, rfl, by simp [Go.Sort.grow], fun k hk _ => by simp [Go.Sort.grow, Array.getElem?_append, hk]⟩
theorem Frame.growN {w : World} {n : Nat} {os : Array Obj} : Frame w [] (Go.Sort.grow (w.drewN n) os) := Frame.trans (Frame.drewN (n := n)) Frame.grow (fun k hk => by simp at hk)
theorem Frame.bytesWorld {w : World} {e : TypeId} {s : ByteArray} : Frame w [] (Lib.bytesWorld w e s) := by
  refine ⟨rfl, rfl, rfl, ?_, fun k hk _ => Lib.bytesWorld_at_old w e s k hk⟩
  simp [Lib.bytesWorld, World.freeze, World.alloc, World.drew, -World.alloc_eq, -World.drew_eq]
end Go.LK
