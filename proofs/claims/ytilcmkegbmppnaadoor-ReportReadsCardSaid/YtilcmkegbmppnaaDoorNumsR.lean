/-
  Closed facts of the program: sizes and zero values of element types, the places of fields.
-/
import Derived.KernelRfl
import Derived.Test.YtilcmkegbmppnaaDoorNumsT
namespace Go.Proofs.YtilcmkegbmppnaaDoor
open Go Go.LK
set_option linter.unusedSimpArgs false

theorem info98 : Tryd.prog.info? 98 = some Tryd.t98 ∧ Tryd.t98.zero = some (.agg #[.int .i64 0, .int .i64 0, .int .i64 0, .int .i64 0, .int .i64 0, .int .i64 0, .int .i64 0, .int .i64 0]) ∧ Tryd.t98.size = 8 ∧ Tryd.t98.bytes = 64 := ⟨by kernel_rfl, by kernel_rfl, by kernel_rfl, by kernel_rfl⟩
theorem places59 {fs : Array Field} (h : Tryd.prog.underlying 59 = some (.struct fs)) : ∀ w, (fs.mapM (m := Sem) fun f => Prod.mk f.offset <$> sizeOf f.type).run Tryd.prog w = .ok #[(0, 1), (1, 1), (2, 1), (3, 1), (4, 1), (5, 1), (6, 1), (7, 1), (8, 1), (9, 1), (10, 1), (11, 1)] w := by
  rw [Tryd.underlying59] at h
  cases h
  intro w
  simp [Tryd.sizeOf3]
theorem places83 {fs : Array Field} (h : Tryd.prog.underlying 83 = some (.struct fs)) : ∀ w, (fs.mapM (m := Sem) fun f => Prod.mk f.offset <$> sizeOf f.type).run Tryd.prog w = .ok #[(0, 1), (1, 1), (2, 1), (3, 1), (4, 1), (5, 1), (6, 1)] w := by
  rw [Tryd.underlying83] at h
  cases h
  intro w
  simp [Tryd.sizeOf3]
theorem places98 {fs : Array Field} (h : Tryd.prog.underlying 98 = some (.struct fs)) : ∀ w, (fs.mapM (m := Sem) fun f => Prod.mk f.offset <$> sizeOf f.type).run Tryd.prog w = .ok #[(0, 1), (1, 1), (2, 1), (3, 1), (4, 1), (5, 1), (6, 1), (7, 1)] w := by
  rw [Tryd.underlying98] at h
  cases h
  intro w
  simp [Tryd.sizeOf3]
theorem places123 {fs : Array Field} (h : Tryd.prog.underlying 123 = some (.struct fs)) : ∀ w, (fs.mapM (m := Sem) fun f => Prod.mk f.offset <$> sizeOf f.type).run Tryd.prog w = .ok #[(0, 1), (1, 1), (2, 1)] w := by
  rw [Tryd.underlying123] at h
  cases h
  intro w
  simp [Tryd.sizeOf119, Tryd.sizeOf120, Tryd.sizeOf88]
theorem places145 {fs : Array Field} (h : Tryd.prog.underlying 145 = some (.struct fs)) : ∀ w, (fs.mapM (m := Sem) fun f => Prod.mk f.offset <$> sizeOf f.type).run Tryd.prog w = .ok #[(0, 1), (1, 1)] w := by
  rw [Tryd.underlying145] at h
  cases h
  intro w
  simp [Tryd.sizeOf141, Tryd.sizeOf143]
theorem places150 {fs : Array Field} (h : Tryd.prog.underlying 150 = some (.struct fs)) : ∀ w, (fs.mapM (m := Sem) fun f => Prod.mk f.offset <$> sizeOf f.type).run Tryd.prog w = .ok #[(0, 1), (1, 1)] w := by
  rw [Tryd.underlying150] at h
  cases h
  intro w
  simp [Tryd.sizeOf3]
theorem fint59 {fs : Array Field} (h : Tryd.prog.underlying 59 = some (.struct fs)) : FInt Tryd.prog 0 fs.toList := by
  rw [Tryd.underlying59] at h
  cases h
  exact ⟨rfl, (by decide), Tryd.underlying3, rfl, (by decide), Tryd.underlying3, rfl, (by decide), Tryd.underlying3, rfl, (by decide), Tryd.underlying3, rfl, (by decide), Tryd.underlying3, rfl, (by decide), Tryd.underlying3, rfl, (by decide), Tryd.underlying3, rfl, (by decide), Tryd.underlying3, rfl, (by decide), Tryd.underlying3, rfl, (by decide), Tryd.underlying3, rfl, (by decide), Tryd.underlying3, rfl, (by decide), Tryd.underlying3, trivial⟩
theorem fint150 {fs : Array Field} (h : Tryd.prog.underlying 150 = some (.struct fs)) : FInt Tryd.prog 0 fs.toList := by
  rw [Tryd.underlying150] at h
  cases h
  exact ⟨rfl, (by decide), Tryd.underlying3, rfl, (by decide), Tryd.underlying3, trivial⟩

end Go.Proofs.YtilcmkegbmppnaaDoor
