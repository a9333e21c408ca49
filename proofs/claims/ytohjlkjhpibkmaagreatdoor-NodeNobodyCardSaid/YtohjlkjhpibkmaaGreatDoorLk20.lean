/-
  Arrays whose elements are one cell each, by lists: an element at an index that is not known; a text of bytes.
-/
import Derived.Test.YtohjlkjhpibkmaaGreatDoorLkC
import Derived.Laws.BytesString
namespace Go.LK
open Go Go.RowKit

section
variable {c : Cx} {E : Env} {L : List Sp} {x y : Operand} {T ty : TypeId} {kd : IntKind}
end

section
variable {c : Cx} {E : Env} {L : List Sp} {x : Operand} {S D ty : TypeId}
end
end Go.LK
