/-
  Strings: a string is the list of its bytes; conversions of integers; cells that may only be read (package variables); a contract of the library's told in this logic.
-/
import Derived.Test.YtdnalilglacjbaaLkB
namespace Go.LK
open Go Go.RowKit

/-- A string, by its bytes. -/
abbrev str (l : List UInt8) : Value := .string ⟨l.toArray⟩
theorem size_mk (l : List UInt8) : (ByteArray.mk l.toArray).size = l.length := by simp [ByteArray.size]

section
variable {c : Cx} {E : Env} {x y z : Operand} {T ty : TypeId} {l m : List UInt8}
end

section
variable {c : Cx} {E : Env} {x y : Operand} {T ty : TypeId} {kd : IntKind} {m n : Int}
theorem Pu.mul' (hx : ev E x = some (.int .i64 m)) (hy : ev E y = some (.int .i64 n)) (h : -9223372036854775808 ≤ m * n ∧ m * n ≤ 9223372036854775807) : Pu c E (.binOp .mul T x y T) ty (.int .i64 (m * n)) := by
  have := Pu.mul (c := c) (T := T) (ty := ty) hx hy; rwa [in_i64 h] at this
end

/-- A cell that may be read. -/
def gl (g : Nat) (v : Value) : Sp where
  foot := [g]
  holds w := w.cell? ⟨g, 0, none⟩ = some v
  lt w h := by
    intro k hk
    simp at hk; subst hk
    exact cell_lt h
  loc w w' h hh := by
    rw [← hh]; exact cell_of_block (h g (by simp))

end Go.LK
