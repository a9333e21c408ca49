/-
  make([]T, n).
-/
import Derived.Test.YtdnalilglacjbaaLk10
namespace Go.LK
open Go Go.RowKit

end Go.LK
