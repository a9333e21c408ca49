/-
  Closed facts of the program: sizes and zero values of element types, the places of fields.
-/
import Derived.KernelRfl
import Derived.Test.YtnkhmbbnabejhaaLk34
import Derived.Test.YtnkhmbbnabejhaaNumsJ
namespace Go.Proofs.Ytnkhmbbnabejhaa
open Go Go.LK
set_option linter.unusedSimpArgs false

theorem info98 : Try.prog.info? 98 = some Try.t98 ∧ Try.t98.zero = some (.agg #[.int .i64 0, .int .i64 0]) ∧ Try.t98.size = 2 ∧ Try.t98.bytes = 16 := ⟨by kernel_rfl, by kernel_rfl, by kernel_rfl, by kernel_rfl⟩
theorem places62 {fs : Array Field} (h : Try.prog.underlying 62 = some (.struct fs)) : ∀ w, (fs.mapM (m := Sem) fun f => Prod.mk f.offset <$> sizeOf f.type).run Try.prog w = .ok #[(0, 1), (1, 1)] w := by
  rw [Try.underlying62] at h
  cases h
  intro w
  simp [Try.sizeOf59, Try.sizeOf60]
theorem places98 {fs : Array Field} (h : Try.prog.underlying 98 = some (.struct fs)) : ∀ w, (fs.mapM (m := Sem) fun f => Prod.mk f.offset <$> sizeOf f.type).run Try.prog w = .ok #[(0, 1), (1, 1)] w := by
  rw [Try.underlying98] at h
  cases h
  intro w
  simp [Try.sizeOf3]

end Go.Proofs.Ytnkhmbbnabejhaa
