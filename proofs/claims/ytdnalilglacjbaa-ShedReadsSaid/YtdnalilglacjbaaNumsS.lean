/-
  Closed facts of the program: sizes and zero values of element types, the places of fields.
-/
import Derived.KernelRfl
import Derived.Test.YtdnalilglacjbaaLk36
import Derived.Test.YtdnalilglacjbaaProg
namespace Go.Proofs.Ytdnalilglacjbaa
open Go Go.LK
set_option linter.unusedSimpArgs false

theorem Try.mixed : Try.prog.follows .mixedOrders = true := by kernel_rfl
theorem info30 : Try.prog.info? 30 = some Try.t30 ∧ Try.t30.zero = some (.agg #[.int .i64 0, .int .i64 0, .int .i64 0, .int .i64 0]) ∧ Try.t30.size = 4 ∧ Try.t30.bytes = 32 := ⟨by kernel_rfl, by kernel_rfl, by kernel_rfl, by kernel_rfl⟩
theorem info45 : Try.prog.info? 45 = some Try.t45 ∧ Try.t45.zero = some (.agg #[.int .i64 0, .int .i64 0, .int .i64 0, .int .i64 0, .int .i64 0, .int .i64 0, .int .i64 0]) ∧ Try.t45.size = 7 ∧ Try.t45.bytes = 56 := ⟨by kernel_rfl, by kernel_rfl, by kernel_rfl, by kernel_rfl⟩
theorem info66 : Try.prog.info? 66 = some Try.t66 ∧ Try.t66.zero = some (.agg #[.int .i64 0, .int .i64 0, .int .i64 0, .int .i64 0, .int .i64 0, .int .i64 0, .int .i64 0, .int .i64 0, .int .i64 0, .int .i64 0, .int .i64 0, .int .i64 0, .int .i64 0, Value.slice none 0 0]) ∧ Try.t66.size = 14 ∧ Try.t66.bytes = 128 := ⟨by kernel_rfl, by kernel_rfl, by kernel_rfl, by kernel_rfl⟩
theorem info68 : Try.prog.info? 68 = some Try.t68 ∧ Try.t68.zero = some (.agg #[.int .i64 0, .int .i64 0, .int .i64 0, .int .i64 0]) ∧ Try.t68.size = 4 ∧ Try.t68.bytes = 32 := ⟨by kernel_rfl, by kernel_rfl, by kernel_rfl, by kernel_rfl⟩
theorem places25 {fs : Array Field} (h : Try.prog.underlying 25 = some (.struct fs)) : ∀ w, (fs.mapM (m := Sem) fun f => Prod.mk f.offset <$> sizeOf f.type).run Try.prog w = .ok #[(0, 1), (1, 1), (2, 1), (3, 1), (4, 1)] w := by
  rw [Try.underlying25] at h
  cases h
  intro w
  simp [Try.sizeOf22, Try.sizeOf23, Try.sizeOf3]
theorem places30 {fs : Array Field} (h : Try.prog.underlying 30 = some (.struct fs)) : ∀ w, (fs.mapM (m := Sem) fun f => Prod.mk f.offset <$> sizeOf f.type).run Try.prog w = .ok #[(0, 1), (1, 1), (2, 1), (3, 1)] w := by
  rw [Try.underlying30] at h
  cases h
  intro w
  simp [Try.sizeOf3]
theorem places45 {fs : Array Field} (h : Try.prog.underlying 45 = some (.struct fs)) : ∀ w, (fs.mapM (m := Sem) fun f => Prod.mk f.offset <$> sizeOf f.type).run Try.prog w = .ok #[(0, 1), (1, 1), (2, 1), (3, 1), (4, 1), (5, 1), (6, 1)] w := by
  rw [Try.underlying45] at h
  cases h
  intro w
  simp [Try.sizeOf3]
theorem places61 {fs : Array Field} (h : Try.prog.underlying 61 = some (.struct fs)) : ∀ w, (fs.mapM (m := Sem) fun f => Prod.mk f.offset <$> sizeOf f.type).run Try.prog w = .ok #[(0, 1), (1, 1), (2, 1), (3, 1), (4, 1), (5, 1), (6, 1)] w := by
  rw [Try.underlying61] at h
  cases h
  intro w
  simp [Try.sizeOf3]
theorem places66 {fs : Array Field} (h : Try.prog.underlying 66 = some (.struct fs)) : ∀ w, (fs.mapM (m := Sem) fun f => Prod.mk f.offset <$> sizeOf f.type).run Try.prog w = .ok #[(0, 1), (1, 1), (2, 1), (3, 1), (4, 1), (5, 1), (6, 7), (13, 1)] w := by
  rw [Try.underlying66] at h
  cases h
  intro w
  simp [Try.sizeOf3, Try.sizeOf61, Try.sizeOf64]
theorem places68 {fs : Array Field} (h : Try.prog.underlying 68 = some (.struct fs)) : ∀ w, (fs.mapM (m := Sem) fun f => Prod.mk f.offset <$> sizeOf f.type).run Try.prog w = .ok #[(0, 1), (1, 1), (2, 1), (3, 1)] w := by
  rw [Try.underlying68] at h
  cases h
  intro w
  simp [Try.sizeOf3]
theorem places70 {fs : Array Field} (h : Try.prog.underlying 70 = some (.struct fs)) : ∀ w, (fs.mapM (m := Sem) fun f => Prod.mk f.offset <$> sizeOf f.type).run Try.prog w = .ok #[(0, 1), (1, 4)] w := by
  rw [Try.underlying70] at h
  cases h
  intro w
  simp [Try.sizeOf30, Try.sizeOf4]
theorem places73 {fs : Array Field} (h : Try.prog.underlying 73 = some (.struct fs)) : ∀ w, (fs.mapM (m := Sem) fun f => Prod.mk f.offset <$> sizeOf f.type).run Try.prog w = .ok #[(0, 1), (1, 1), (2, 40)] w := by
  rw [Try.underlying73] at h
  cases h
  intro w
  simp [Try.sizeOf3, Try.sizeOf4, Try.sizeOf71]
theorem fint30 {fs : Array Field} (h : Try.prog.underlying 30 = some (.struct fs)) : FInt Try.prog 0 fs.toList := by
  rw [Try.underlying30] at h
  cases h
  exact ⟨rfl, (by decide), Try.underlying3, rfl, (by decide), Try.underlying3, rfl, (by decide), Try.underlying3, rfl, (by decide), Try.underlying3, trivial⟩

end Go.Proofs.Ytdnalilglacjbaa
