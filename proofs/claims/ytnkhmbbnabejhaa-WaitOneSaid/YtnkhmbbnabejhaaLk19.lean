/-
  Another word for the same value.
-/
import Derived.Test.YtnkhmbbnabejhaaLk18
namespace Go.LK
open Go Go.RowKit
theorem Pu.to {c : Cx} {E : Env} {o : Op} {ty : TypeId} {v v' : Value} (h : Pu c E o ty v) (e : v = v') : Pu c E o ty v' := e ▸ h
end Go.LK
