/-
  The worlds in which the library's contracts end, in this logic's words.
-/
import Derived.Test.YtdnalilglacjbaaLk15
import Derived.Sort.Grow
import Derived.Deep.Draws
import Derived.Lib.ConvBytes
namespace Go.LK
open Go Go.RowKit

end Go.LK
