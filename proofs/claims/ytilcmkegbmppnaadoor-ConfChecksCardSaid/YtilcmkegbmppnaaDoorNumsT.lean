/-
  Closed facts of the program: sizes and zero values of element types, the places of fields.
-/
import Derived.KernelRfl
import Derived.Test.YtilcmkegbmppnaaDoorLk24
import Derived.Test.YtilcmkegbmppnaaDoorProg
namespace Go.Proofs.YtilcmkegbmppnaaDoor
open Go Go.LK
set_option linter.unusedSimpArgs false

theorem Tryd.mixed : Tryd.prog.follows .mixedOrders = true := by kernel_rfl
theorem info3 : Tryd.prog.info? 3 = some Tryd.t3 ∧ Tryd.t3.zero = some (.int .i64 0) ∧ Tryd.t3.size = 1 ∧ Tryd.t3.bytes = 8 := ⟨by kernel_rfl, by kernel_rfl, by kernel_rfl, by kernel_rfl⟩
theorem info9 : Tryd.prog.info? 9 = some Tryd.t9 ∧ Tryd.t9.zero = some (str ([] : List UInt8)) ∧ Tryd.t9.size = 1 ∧ Tryd.t9.bytes = 16 := ⟨by kernel_rfl, by kernel_rfl, by kernel_rfl, by kernel_rfl⟩
theorem info38 : Tryd.prog.info? 38 = some Tryd.t38 ∧ Tryd.t38.zero = some (.agg #[.int .i64 0, .int .i64 0, .int .i64 0, .int .i64 0]) ∧ Tryd.t38.size = 4 ∧ Tryd.t38.bytes = 32 := ⟨by kernel_rfl, by kernel_rfl, by kernel_rfl, by kernel_rfl⟩
theorem info83 : Tryd.prog.info? 83 = some Tryd.t83 ∧ Tryd.t83.zero = some (.agg #[.int .i64 0, .int .i64 0, .int .i64 0, .int .i64 0, .int .i64 0, .int .i64 0, .int .i64 0]) ∧ Tryd.t83.size = 7 ∧ Tryd.t83.bytes = 56 := ⟨by kernel_rfl, by kernel_rfl, by kernel_rfl, by kernel_rfl⟩
theorem places23 {fs : Array Field} (h : Tryd.prog.underlying 23 = some (.struct fs)) : ∀ w, (fs.mapM (m := Sem) fun f => Prod.mk f.offset <$> sizeOf f.type).run Tryd.prog w = .ok #[(0, 1), (1, 1), (2, 1), (3, 1), (4, 1), (5, 1), (6, 1)] w := by
  rw [Tryd.underlying23] at h
  cases h
  intro w
  simp [Tryd.sizeOf3]
theorem places26 {fs : Array Field} (h : Tryd.prog.underlying 26 = some (.struct fs)) : ∀ w, (fs.mapM (m := Sem) fun f => Prod.mk f.offset <$> sizeOf f.type).run Tryd.prog w = .ok #[(0, 1), (1, 1), (2, 1), (3, 1), (4, 1), (5, 1), (6, 7), (13, 1)] w := by
  rw [Tryd.underlying26] at h
  cases h
  intro w
  simp [Tryd.sizeOf23, Tryd.sizeOf24, Tryd.sizeOf3]
theorem places38 {fs : Array Field} (h : Tryd.prog.underlying 38 = some (.struct fs)) : ∀ w, (fs.mapM (m := Sem) fun f => Prod.mk f.offset <$> sizeOf f.type).run Tryd.prog w = .ok #[(0, 1), (1, 1), (2, 1), (3, 1)] w := by
  rw [Tryd.underlying38] at h
  cases h
  intro w
  simp [Tryd.sizeOf3]
theorem fint38 {fs : Array Field} (h : Tryd.prog.underlying 38 = some (.struct fs)) : FInt Tryd.prog 0 fs.toList := by
  rw [Tryd.underlying38] at h
  cases h
  exact ⟨rfl, (by decide), Tryd.underlying3, rfl, (by decide), Tryd.underlying3, rfl, (by decide), Tryd.underlying3, rfl, (by decide), Tryd.underlying3, trivial⟩

end Go.Proofs.YtilcmkegbmppnaaDoor
