/-
  Functions bound to their first arguments (method values).
-/
import Derived.Test.YtnkhmbbnabejhaaLkD
namespace Go.LK
open Go Go.RowKit
section
variable {c : Cx} {E : Env} {L : List Sp} {ty : TypeId} {x : Operand}
end
end Go.LK
