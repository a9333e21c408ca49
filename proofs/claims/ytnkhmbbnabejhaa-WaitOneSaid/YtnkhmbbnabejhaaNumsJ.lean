/-
  Closed facts of the program: sizes and zero values of element types, the places of fields.
-/
import Derived.KernelRfl
import Derived.Test.YtnkhmbbnabejhaaLk29
import Derived.Test.YtnkhmbbnabejhaaProg
namespace Go.Proofs.Ytnkhmbbnabejhaa
open Go Go.LK
set_option linter.unusedSimpArgs false

theorem Try.mixed : Try.prog.follows .mixedOrders = true := by kernel_rfl
theorem info3 : Try.prog.info? 3 = some Try.t3 ∧ Try.t3.zero = some (.int .i64 0) ∧ Try.t3.size = 1 ∧ Try.t3.bytes = 8 := ⟨by kernel_rfl, by kernel_rfl, by kernel_rfl, by kernel_rfl⟩
theorem info4 : Try.prog.info? 4 = some Try.t4 ∧ Try.t4.zero = some (.bool false) ∧ Try.t4.size = 1 ∧ Try.t4.bytes = 1 := ⟨by kernel_rfl, by kernel_rfl, by kernel_rfl, by kernel_rfl⟩
theorem places23 {fs : Array Field} (h : Try.prog.underlying 23 = some (.struct fs)) : ∀ w, (fs.mapM (m := Sem) fun f => Prod.mk f.offset <$> sizeOf f.type).run Try.prog w = .ok #[(0, 1), (1, 1), (2, 1), (3, 1), (4, 1), (5, 1), (6, 1)] w := by
  rw [Try.underlying23] at h
  cases h
  intro w
  simp [Try.sizeOf3]
theorem places28 {fs : Array Field} (h : Try.prog.underlying 28 = some (.struct fs)) : ∀ w, (fs.mapM (m := Sem) fun f => Prod.mk f.offset <$> sizeOf f.type).run Try.prog w = .ok #[(0, 7), (7, 1), (8, 1)] w := by
  rw [Try.underlying28] at h
  cases h
  intro w
  simp [Try.sizeOf23, Try.sizeOf24, Try.sizeOf3]
theorem places88 {fs : Array Field} (h : Try.prog.underlying 88 = some (.struct fs)) : ∀ w, (fs.mapM (m := Sem) fun f => Prod.mk f.offset <$> sizeOf f.type).run Try.prog w = .ok #[(0, 9)] w := by
  rw [Try.underlying88] at h
  cases h
  intro w
  simp [Try.sizeOf28]
theorem fint23 {fs : Array Field} (h : Try.prog.underlying 23 = some (.struct fs)) : FInt Try.prog 0 fs.toList := by
  rw [Try.underlying23] at h
  cases h
  exact ⟨rfl, (by decide), Try.underlying3, rfl, (by decide), Try.underlying3, rfl, (by decide), Try.underlying3, rfl, (by decide), Try.underlying3, rfl, (by decide), Try.underlying3, rfl, (by decide), Try.underlying3, rfl, (by decide), Try.underlying3, trivial⟩

end Go.Proofs.Ytnkhmbbnabejhaa
