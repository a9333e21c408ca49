/-
  Walks, printed by a program of mine (lk.py): each function meets its contract.
-/
import Derived.KernelRfl
import Derived.Test.YtilcmkegbmppnaaDoorKX1
namespace Go.Proofs.YtilcmkegbmppnaaDoor
open Go Go.LK
set_option linter.unusedSimpArgs false

end Go.Proofs.YtilcmkegbmppnaaDoor
