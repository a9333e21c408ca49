/-
  Closed facts of the program: the order of evaluation is open; sizes and zero values of the element types; the places of the fields.
-/
import Derived.KernelRfl
import Derived.Test.YtghhjhjpccipaaaProg
import Derived.Test.YtghhjhjpccipaaaLk7
namespace Go.Proofs.Ytghhjhjpccipaaa
open Go Go.LK

theorem Try.mixed : Try.prog.follows .mixedOrders = true := by kernel_rfl
theorem info25 : Try.prog.info? 25 = some Try.t25 ∧ Try.t25.zero = some (.agg #[.int .i64 0, .int .i64 0, .int .i64 0, .int .i64 0]) ∧ Try.t25.size = 4 ∧ Try.t25.bytes = 32 := ⟨by kernel_rfl, by kernel_rfl, by kernel_rfl, by kernel_rfl⟩
theorem info93 : Try.prog.info? 93 = some Try.t93 ∧ Try.t93.zero = some (.agg #[.int .i64 0, .int .i64 0, .int .i64 0, .int .i64 0, .int .i64 0, .int .i64 0, .int .i64 0]) ∧ Try.t93.size = 7 ∧ Try.t93.bytes = 56 := ⟨by kernel_rfl, by kernel_rfl, by kernel_rfl, by kernel_rfl⟩
theorem places25 {fs : Array Field} (h : Try.prog.underlying 25 = some (.struct fs)) : ∀ w, (fs.mapM (m := Sem) fun f => Prod.mk f.offset <$> sizeOf f.type).run Try.prog w = .ok #[(0, 1), (1, 1), (2, 1), (3, 1)] w := by
  rw [Try.underlying25] at h
  cases h
  intro w
  simp [Try.sizeOf3]
theorem places93 {fs : Array Field} (h : Try.prog.underlying 93 = some (.struct fs)) : ∀ w, (fs.mapM (m := Sem) fun f => Prod.mk f.offset <$> sizeOf f.type).run Try.prog w = .ok #[(0, 1), (1, 1), (2, 1), (3, 1), (4, 1), (5, 1), (6, 1)] w := by
  rw [Try.underlying93] at h
  cases h
  intro w
  simp [Try.sizeOf3]
theorem fint25 {fs : Array Field} (h : Try.prog.underlying 25 = some (.struct fs)) : FInt Try.prog 0 fs.toList := by
  rw [Try.underlying25] at h
  cases h
  exact ⟨rfl, (by decide), Try.underlying3, rfl, (by decide), Try.underlying3, rfl, (by decide), Try.underlying3, rfl, (by decide), Try.underlying3, trivial⟩

end Go.Proofs.Ytghhjhjpccipaaa
