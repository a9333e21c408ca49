/-
  Rules and plain laws that the walks use.
-/
import Derived.Test.YtohjlkjhpibkmaaGreatDoorD04
set_option linter.unusedSimpArgs false
set_option linter.unusedVariables false
namespace Go.LK
open Go Go.RowKit
section
variable {c:Cx} {E:Env} {L:List Sp} {x:Operand} {S D ty:TypeId} {V:Value}
end
end Go.LK
