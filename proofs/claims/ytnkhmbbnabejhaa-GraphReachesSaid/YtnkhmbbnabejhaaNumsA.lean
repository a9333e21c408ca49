/-
  Several texts in one: NumsJ, NumsW, NumsG.
-/
import Derived.KernelRfl
import Derived.Test.YtnkhmbbnabejhaaLk29
import Derived.Test.YtnkhmbbnabejhaaProg
import Derived.Test.YtnkhmbbnabejhaaLk34
namespace Go.Proofs.Ytnkhmbbnabejhaa
open Go Go.LK
set_option linter.unusedSimpArgs false

theorem Try.mixed : Try.prog.follows .mixedOrders = true := by kernel_rfl
theorem info3 : Try.prog.info? 3 = some Try.t3 ∧ Try.t3.zero = some (.int .i64 0) ∧ Try.t3.size = 1 ∧ Try.t3.bytes = 8 := ⟨by kernel_rfl, by kernel_rfl, by kernel_rfl, by kernel_rfl⟩
theorem info4 : Try.prog.info? 4 = some Try.t4 ∧ Try.t4.zero = some (.bool false) ∧ Try.t4.size = 1 ∧ Try.t4.bytes = 1 := ⟨by kernel_rfl, by kernel_rfl, by kernel_rfl, by kernel_rfl⟩

end Go.Proofs.Ytnkhmbbnabejhaa

namespace Go.Proofs.Ytnkhmbbnabejhaa
open Go Go.LK
set_option linter.unusedSimpArgs false

end Go.Proofs.Ytnkhmbbnabejhaa

namespace Go.Proofs.Ytnkhmbbnabejhaa
open Go Go.LK
set_option linter.unusedSimpArgs false

theorem info104 : Try.prog.info? 104 = some Try.t104 ∧ Try.t104.zero = some (.agg #[.int .i64 0, .int .i64 0, .int .i64 0, .int .i64 0, .int .i64 0, .int .i64 0, .int .i64 0, .int .i64 0, .int .i64 0, .int .i64 0, .int .i64 0, .int .i64 0, .int .i64 0, Value.slice none 0 0]) ∧ Try.t104.size = 14 ∧ Try.t104.bytes = 128 := ⟨by kernel_rfl, by kernel_rfl, by kernel_rfl, by kernel_rfl⟩
theorem info106 : Try.prog.info? 106 = some Try.t106 ∧ Try.t106.zero = some (.agg #[.int .i64 0, .int .i64 0, .int .i64 0, .int .i64 0]) ∧ Try.t106.size = 4 ∧ Try.t106.bytes = 32 := ⟨by kernel_rfl, by kernel_rfl, by kernel_rfl, by kernel_rfl⟩
theorem places104 {fs : Array Field} (h : Try.prog.underlying 104 = some (.struct fs)) : ∀ w, (fs.mapM (m := Sem) fun f => Prod.mk f.offset <$> sizeOf f.type).run Try.prog w = .ok #[(0, 1), (1, 1), (2, 1), (3, 1), (4, 1), (5, 1), (6, 7), (13, 1)] w := by
  rw [Try.underlying104] at h
  cases h
  intro w
  simp [Try.sizeOf101, Try.sizeOf102, Try.sizeOf3]
theorem places106 {fs : Array Field} (h : Try.prog.underlying 106 = some (.struct fs)) : ∀ w, (fs.mapM (m := Sem) fun f => Prod.mk f.offset <$> sizeOf f.type).run Try.prog w = .ok #[(0, 1), (1, 1), (2, 1), (3, 1)] w := by
  rw [Try.underlying106] at h
  cases h
  intro w
  simp [Try.sizeOf3]

end Go.Proofs.Ytnkhmbbnabejhaa
