/-
  Arrays as values: built, and looked at by an index that is known; structs of integers by their list; bits of integers.
-/
import Derived.Test.YtnkhmbbnabejhaaLk23
namespace Go.LK
open Go Go.RowKit

section
variable {c : Cx} {k : List It} {E : Env} {L : List Sp} {ty : TypeId} {v : Value} {x y : Operand} {T : TypeId}

/-! ### Structs of integers, by the list -/
end
end Go.LK
