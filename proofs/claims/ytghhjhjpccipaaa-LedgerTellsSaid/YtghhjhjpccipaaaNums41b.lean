/-
  Closed facts of the program: sizes and zero values of element types, the places of fields.
-/
import Derived.KernelRfl
import Derived.Test.YtghhjhjpccipaaaNums41
import Derived.Test.YtghhjhjpccipaaaLk11
namespace Go.Proofs.Ytghhjhjpccipaaa
open Go Go.LK
set_option linter.unusedSimpArgs false

theorem info3 : Try.prog.info? 3 = some Try.t3 ∧ Try.t3.zero = some (.int .i64 0) ∧ Try.t3.size = 1 ∧ Try.t3.bytes = 8 := ⟨by kernel_rfl, by kernel_rfl, by kernel_rfl, by kernel_rfl⟩

end Go.Proofs.Ytghhjhjpccipaaa
