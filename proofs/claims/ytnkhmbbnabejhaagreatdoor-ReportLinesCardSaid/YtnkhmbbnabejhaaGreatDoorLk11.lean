/-
  make([]T, n).
-/
import Derived.Test.YtnkhmbbnabejhaaGreatDoorLk10
namespace Go.LK
open Go Go.RowKit

end Go.LK
