/-
  Several texts in one: Lk18, Lk19.
-/
import Derived.Test.YtohjlkjhpibkmaaGreatDoorLk17
import Derived.Lib.LaidTab
import Derived.Lib.ItoaNum
import Derived.Lib.ParseIntBTie
import Derived.Lib.IndexMore
namespace Go.LK
open Go Go.RowKit

section
variable {c : Cx} {E : Env} {x : Operand} {T ty : TypeId} {v : Value} {b : Bool} {ms : Array (String × TypeId)}
end
end Go.LK

namespace Go.LK
open Go Go.RowKit
theorem Pu.to {c : Cx} {E : Env} {o : Op} {ty : TypeId} {v v' : Value} (h : Pu c E o ty v) (e : v = v') : Pu c E o ty v' := e ▸ h
end Go.LK
