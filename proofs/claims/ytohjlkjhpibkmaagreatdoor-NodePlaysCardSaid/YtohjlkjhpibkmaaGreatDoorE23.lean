/-
  Rules and plain laws that the walks use.
-/
import Derived.Test.YtohjlkjhpibkmaaGreatDoorE04
set_option linter.all false
namespace Go.LK
open Go Go.RowKit
section
variable {i:cM} {D:bW} {C:List aB} {e:Operand} {aj b5 aX:TypeId} {X:Value}
end
end Go.LK
