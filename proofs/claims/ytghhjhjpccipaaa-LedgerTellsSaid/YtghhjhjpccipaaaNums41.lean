/-
  Closed facts of the program: sizes and zero values of element types, the places of fields.
-/
import Derived.KernelRfl
import Derived.Test.YtghhjhjpccipaaaNums44
import Derived.Test.YtghhjhjpccipaaaLk10
namespace Go.Proofs.Ytghhjhjpccipaaa
open Go Go.LK
set_option linter.unusedSimpArgs false

theorem info61 : Try.prog.info? 61 = some Try.t61 ∧ Try.t61.zero = some (.agg #[.int .i64 0, .int .i64 0, .int .i64 0, .int .i64 0, .int .i64 0, .int .i64 0, .int .i64 0, .int .i64 0]) ∧ Try.t61.size = 8 ∧ Try.t61.bytes = 64 := ⟨by kernel_rfl, by kernel_rfl, by kernel_rfl, by kernel_rfl⟩
theorem places61 {fs : Array Field} (h : Try.prog.underlying 61 = some (.struct fs)) : ∀ w, (fs.mapM (m := Sem) fun f => Prod.mk f.offset <$> sizeOf f.type).run Try.prog w = .ok #[(0, 1), (1, 1), (2, 1), (3, 1), (4, 1), (5, 1), (6, 1), (7, 1)] w := by
  rw [Try.underlying61] at h
  cases h
  intro w
  simp [Try.sizeOf3]
theorem places123 {fs : Array Field} (h : Try.prog.underlying 123 = some (.struct fs)) : ∀ w, (fs.mapM (m := Sem) fun f => Prod.mk f.offset <$> sizeOf f.type).run Try.prog w = .ok #[(0, 1), (1, 1), (2, 1)] w := by
  rw [Try.underlying123] at h
  cases h
  intro w
  simp [Try.sizeOf119, Try.sizeOf120, Try.sizeOf55]
theorem places129 {fs : Array Field} (h : Try.prog.underlying 129 = some (.struct fs)) : ∀ w, (fs.mapM (m := Sem) fun f => Prod.mk f.offset <$> sizeOf f.type).run Try.prog w = .ok #[(0, 1), (1, 1)] w := by
  rw [Try.underlying129] at h
  cases h
  intro w
  simp [Try.sizeOf3]
theorem places148 {fs : Array Field} (h : Try.prog.underlying 148 = some (.struct fs)) : ∀ w, (fs.mapM (m := Sem) fun f => Prod.mk f.offset <$> sizeOf f.type).run Try.prog w = .ok #[(0, 1), (1, 1)] w := by
  rw [Try.underlying148] at h
  cases h
  intro w
  simp [Try.sizeOf144, Try.sizeOf146]
theorem fint61 {fs : Array Field} (h : Try.prog.underlying 61 = some (.struct fs)) : FInt Try.prog 0 fs.toList := by
  rw [Try.underlying61] at h
  cases h
  exact ⟨rfl, (by decide), Try.underlying3, rfl, (by decide), Try.underlying3, rfl, (by decide), Try.underlying3, rfl, (by decide), Try.underlying3, rfl, (by decide), Try.underlying3, rfl, (by decide), Try.underlying3, rfl, (by decide), Try.underlying3, rfl, (by decide), Try.underlying3, trivial⟩
theorem fint129 {fs : Array Field} (h : Try.prog.underlying 129 = some (.struct fs)) : FInt Try.prog 0 fs.toList := by
  rw [Try.underlying129] at h
  cases h
  exact ⟨rfl, (by decide), Try.underlying3, rfl, (by decide), Try.underlying3, trivial⟩

end Go.Proofs.Ytghhjhjpccipaaa
