/-
  A range over a string: its block, what comes next; what a rune that begins at a byte is.
-/
import Derived.Test.YtohjlkjhpibkmaaGreatDoorLk21
import Derived.Laws.RangeAny
namespace Go.LK
open Go Go.RowKit

/-- The block of a range over the string l, at byte p. -/
def itS (g : Nat) (l : List UInt8) (p : Nat) : Sp := blk g (.stringIter ⟨l.toArray⟩ p)
/-- The rune that begins at byte p, and how many bytes it has. -/
def rune (l : List UInt8) (p : Nat) : Nat × Nat := Utf8.decode ⟨l.toArray⟩ p

section
variable {c : Cx} {E : Env} {L : List Sp} {ty T : TypeId} {x : Operand} {l : List UInt8} {g p : Nat}
theorem Lo.range (hT : c.P.underlying T = some .string) (hx : ev E x = some (str l)) : Lo c E L (.range T x) ty fun v L' => ∃ g, v = .pointer (some ⟨g, 0, none⟩) ∧ L' = itS g l 0 :: L := fun _ a w ha hs d pos af g K Q hK =>
  wp_loud (v := .pointer (some ⟨w.heap.size, 0, none⟩)) (w' := w.alloc (.stringIter ⟨l.toArray⟩ 0)) (by simp [execOp, ha.ev hx, run_range_string w T _ hT, World.iter])
    (hK _ _ _ ⟨_, rfl, rfl⟩ (hs.alloc _))
theorem Lo.next (i : Nat) (hx : ev E x = some (.pointer (some ⟨g, 0, none⟩))) (hi : L[i]? = some (itS g l p)) (h : p < l.length) :
    Lo c E L (.next x true) ty fun v L' => v = .tuple #[.bool true, .int .i64 p, .int .i32 (rune l p).1] ∧ L' = L.set i (itS g l (p + (rune l p).2)) := fun _ a w ha hst d pos af gd K Q hK => by
  have hh : w.heap[g]? = some (.stringIter ⟨l.toArray⟩ p) := hst.at_ _ (List.mem_of_getElem? hi)
  have hlt := (Array.getElem?_eq_some_iff.1 hh).1
  have hp : p < (ByteArray.mk l.toArray).size := by rw [size_mk]; exact h
  refine wp_loud (v := .tuple #[.bool true, .int .i64 p, .int .i32 (rune l p).1]) (w' := { w with heap := w.heap.setIfInBounds g (.stringIter ⟨l.toArray⟩ (p + (rune l p).2)) })
    (by simp [execOp, ha.ev hx, Instr.next, getObj, setObj, Sem.run, hh, hp, Result.andThen, goInt, rune]) ?_
  refine hK _ _ _ ⟨rfl, rfl⟩ (hst.set hi ⟨rfl, rfl, rfl, by simp, fun k _ hk => ?_⟩ ?_ (fun k hk => .inl hk))
  · have : g ≠ k := fun e => hk (by simp [itS, blk, e])
    simp [Array.getElem?_setIfInBounds_ne this]
  · show ({ w with heap := w.heap.setIfInBounds g _ } : World).heap[g]? = _
    simp [hlt]
end

/-! ### What a rune is -/
end Go.LK
