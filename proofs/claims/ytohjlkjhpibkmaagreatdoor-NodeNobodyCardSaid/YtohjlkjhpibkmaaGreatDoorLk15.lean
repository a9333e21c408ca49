/-
  Strings: a string is the list of its bytes; conversions of integers; cells that may only be read (package variables); a contract of the library's told in this logic.
-/
import Derived.Test.YtohjlkjhpibkmaaGreatDoorLkB
namespace Go.LK
open Go Go.RowKit

/-- A string, by its bytes. -/
abbrev str (l : List UInt8) : Value := .string ⟨l.toArray⟩
theorem size_mk (l : List UInt8) : (ByteArray.mk l.toArray).size = l.length := by simp [ByteArray.size]

section
variable {c : Cx} {E : Env} {x y z : Operand} {T ty : TypeId} {l m : List UInt8}
theorem Pu.conv {S D : TypeId} {k k' : IntKind} {n : Int} {ds : TypeDesc} (hS : ∀ w, (underlying S).run c.P w = .ok ds w) (hD : ∀ w, (underlying D).run c.P w = .ok (.int k) w) (hx : ev E x = some (.int k' n)) : Pu c E (.convert S D x) ty (.int k (k.wrap n)) := fun a w ha _ _ _ _ => by
  simp [execOp, ha.ev hx, convert, hS, hD, Conv.intToInt]
end

section
variable {c : Cx} {E : Env} {x y : Operand} {T ty : TypeId} {kd : IntKind} {m n : Int}
theorem Pu.rem (hx : ev E x = some (.int kd m)) (hy : ev E y = some (.int kd n)) (h : ¬ n = 0) : Pu c E (.binOp .rem T x y T) ty (.int kd (m.tmod n)) := fun a w ha _ _ _ _ => by simp [execOp, eqGuard, ha.ev hx, ha.ev hy, binOp, Op.intDiv, h]
theorem Pu.mul' (hx : ev E x = some (.int .i64 m)) (hy : ev E y = some (.int .i64 n)) (h : -9223372036854775808 ≤ m * n ∧ m * n ≤ 9223372036854775807) : Pu c E (.binOp .mul T x y T) ty (.int .i64 (m * n)) := by
  have := Pu.mul (c := c) (T := T) (ty := ty) hx hy; rwa [in_i64 h] at this
end

end Go.LK
