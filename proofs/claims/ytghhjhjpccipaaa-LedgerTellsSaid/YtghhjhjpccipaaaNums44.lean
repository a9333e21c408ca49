/-
  Closed facts of the program: sizes and zero values of element types, the places of fields.
-/
import Derived.KernelRfl
import Derived.Test.YtghhjhjpccipaaaNums
import Derived.Test.YtghhjhjpccipaaaLk9
namespace Go.Proofs.Ytghhjhjpccipaaa
open Go Go.LK

theorem info44 : Try.prog.info? 44 = some Try.t44 ∧ Try.t44.zero = some (.agg #[.int .i64 0, .int .i64 0, .int .i64 0]) ∧ Try.t44.size = 3 ∧ Try.t44.bytes = 24 := ⟨by kernel_rfl, by kernel_rfl, by kernel_rfl, by kernel_rfl⟩
theorem info116 : Try.prog.info? 116 = some Try.t116 ∧ Try.t116.zero = some (.agg #[.int .i64 0, .int .i64 0, .int .i64 0, .int .i64 0, .int .i64 0, .int .i64 0, .bool false]) ∧ Try.t116.size = 7 ∧ Try.t116.bytes = 56 := ⟨by kernel_rfl, by kernel_rfl, by kernel_rfl, by kernel_rfl⟩
theorem places42 {fs : Array Field} (h : Try.prog.underlying 42 = some (.struct fs)) : ∀ w, (fs.mapM (m := Sem) fun f => Prod.mk f.offset <$> sizeOf f.type).run Try.prog w = .ok #[(0, 1), (1, 1), (2, 1), (3, 1), (4, 1), (5, 1), (6, 1)] w := by
  rw [Try.underlying42] at h
  cases h
  intro w
  simp [Try.sizeOf3]
theorem places44 {fs : Array Field} (h : Try.prog.underlying 44 = some (.struct fs)) : ∀ w, (fs.mapM (m := Sem) fun f => Prod.mk f.offset <$> sizeOf f.type).run Try.prog w = .ok #[(0, 1), (1, 1), (2, 1)] w := by
  rw [Try.underlying44] at h
  cases h
  intro w
  simp [Try.sizeOf3]
theorem places101 {fs : Array Field} (h : Try.prog.underlying 101 = some (.struct fs)) : ∀ w, (fs.mapM (m := Sem) fun f => Prod.mk f.offset <$> sizeOf f.type).run Try.prog w = .ok #[(0, 1), (1, 1), (2, 1), (3, 1)] w := by
  rw [Try.underlying101] at h
  cases h
  intro w
  simp [Try.sizeOf3]
theorem places104 {fs : Array Field} (h : Try.prog.underlying 104 = some (.struct fs)) : ∀ w, (fs.mapM (m := Sem) fun f => Prod.mk f.offset <$> sizeOf f.type).run Try.prog w = .ok #[(0, 1), (1, 1), (2, 1)] w := by
  rw [Try.underlying104] at h
  cases h
  intro w
  simp [Try.sizeOf3]
theorem places110 {fs : Array Field} (h : Try.prog.underlying 110 = some (.struct fs)) : ∀ w, (fs.mapM (m := Sem) fun f => Prod.mk f.offset <$> sizeOf f.type).run Try.prog w = .ok #[(0, 3), (3, 1), (4, 1)] w := by
  rw [Try.underlying110] at h
  cases h
  intro w
  simp [Try.sizeOf1, Try.sizeOf104, Try.sizeOf108]
theorem places116 {fs : Array Field} (h : Try.prog.underlying 116 = some (.struct fs)) : ∀ w, (fs.mapM (m := Sem) fun f => Prod.mk f.offset <$> sizeOf f.type).run Try.prog w = .ok #[(0, 1), (1, 1), (2, 1), (3, 1), (4, 1), (5, 1), (6, 1)] w := by
  rw [Try.underlying116] at h
  cases h
  intro w
  simp [Try.sizeOf3, Try.sizeOf4]
theorem fint44 {fs : Array Field} (h : Try.prog.underlying 44 = some (.struct fs)) : FInt Try.prog 0 fs.toList := by
  rw [Try.underlying44] at h
  cases h
  exact ⟨rfl, (by decide), Try.underlying3, rfl, (by decide), Try.underlying3, rfl, (by decide), Try.underlying3, trivial⟩

end Go.Proofs.Ytghhjhjpccipaaa
