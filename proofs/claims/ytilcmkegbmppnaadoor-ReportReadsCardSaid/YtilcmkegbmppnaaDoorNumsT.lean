/-
  Closed facts of the program: sizes and zero values of element types, the places of fields.
-/
import Derived.KernelRfl
import Derived.Test.YtilcmkegbmppnaaDoorLk24
import Derived.Test.YtilcmkegbmppnaaDoorProg
namespace Go.Proofs.YtilcmkegbmppnaaDoor
open Go Go.LK
set_option linter.unusedSimpArgs false

theorem Tryd.mixed : Tryd.prog.follows .mixedOrders = true := by kernel_rfl
theorem info3 : Tryd.prog.info? 3 = some Tryd.t3 ∧ Tryd.t3.zero = some (.int .i64 0) ∧ Tryd.t3.size = 1 ∧ Tryd.t3.bytes = 8 := ⟨by kernel_rfl, by kernel_rfl, by kernel_rfl, by kernel_rfl⟩
theorem info9 : Tryd.prog.info? 9 = some Tryd.t9 ∧ Tryd.t9.zero = some (str ([] : List UInt8)) ∧ Tryd.t9.size = 1 ∧ Tryd.t9.bytes = 16 := ⟨by kernel_rfl, by kernel_rfl, by kernel_rfl, by kernel_rfl⟩
theorem info83 : Tryd.prog.info? 83 = some Tryd.t83 ∧ Tryd.t83.zero = some (.agg #[.int .i64 0, .int .i64 0, .int .i64 0, .int .i64 0, .int .i64 0, .int .i64 0, .int .i64 0]) ∧ Tryd.t83.size = 7 ∧ Tryd.t83.bytes = 56 := ⟨by kernel_rfl, by kernel_rfl, by kernel_rfl, by kernel_rfl⟩

end Go.Proofs.YtilcmkegbmppnaaDoor
