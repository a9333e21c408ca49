/-
  Closed facts of the program: sizes and zero values of element types, the places of fields.
-/
import Derived.KernelRfl
import Derived.Test.YtnkhmbbnabejhaaGreatDoorNumsT
namespace Go.Proofs.YtnkhmbbnabejhaaGreatDoor
open Go Go.LK
set_option linter.unusedSimpArgs false

theorem info23 : Tryz.prog.info? 23 = some Tryz.t23 ∧ Tryz.t23.zero = some (.agg #[.int .i64 0, .int .i64 0, .int .i64 0, .int .i64 0, .int .i64 0, .int .i64 0, .int .i64 0, .int .i64 0, .int .i64 0, .int .i64 0, .int .i64 0, .int .i64 0]) ∧ Tryz.t23.size = 12 ∧ Tryz.t23.bytes = 96 := ⟨by kernel_rfl, by kernel_rfl, by kernel_rfl, by kernel_rfl⟩
theorem info111 : Tryz.prog.info? 111 = some Tryz.t111 ∧ Tryz.t111.zero = some (.agg #[.int .i64 0, .int .i64 0, .int .i64 0, .int .i64 0, .int .i64 0, .int .i64 0, .int .i64 0, .int .i64 0]) ∧ Tryz.t111.size = 8 ∧ Tryz.t111.bytes = 64 := ⟨by kernel_rfl, by kernel_rfl, by kernel_rfl, by kernel_rfl⟩
theorem places23 {fs : Array Field} (h : Tryz.prog.underlying 23 = some (.struct fs)) : ∀ w, (fs.mapM (m := Sem) fun f => Prod.mk f.offset <$> sizeOf f.type).run Tryz.prog w = .ok #[(0, 1), (1, 1), (2, 1), (3, 1), (4, 1), (5, 1), (6, 1), (7, 1), (8, 1), (9, 1), (10, 1), (11, 1)] w := by
  rw [Tryz.underlying23] at h
  cases h
  intro w
  simp [Tryz.sizeOf3]
theorem places47 {fs : Array Field} (h : Tryz.prog.underlying 47 = some (.struct fs)) : ∀ w, (fs.mapM (m := Sem) fun f => Prod.mk f.offset <$> sizeOf f.type).run Tryz.prog w = .ok #[(0, 1), (1, 1), (2, 1), (3, 1), (4, 1), (5, 1), (6, 1)] w := by
  rw [Tryz.underlying47] at h
  cases h
  intro w
  simp [Tryz.sizeOf3]
theorem places105 {fs : Array Field} (h : Tryz.prog.underlying 105 = some (.struct fs)) : ∀ w, (fs.mapM (m := Sem) fun f => Prod.mk f.offset <$> sizeOf f.type).run Tryz.prog w = .ok #[(0, 1), (1, 1), (2, 1)] w := by
  rw [Tryz.underlying105] at h
  cases h
  intro w
  simp [Tryz.sizeOf101, Tryz.sizeOf102, Tryz.sizeOf66]
theorem places111 {fs : Array Field} (h : Tryz.prog.underlying 111 = some (.struct fs)) : ∀ w, (fs.mapM (m := Sem) fun f => Prod.mk f.offset <$> sizeOf f.type).run Tryz.prog w = .ok #[(0, 1), (1, 1), (2, 1), (3, 1), (4, 1), (5, 1), (6, 1), (7, 1)] w := by
  rw [Tryz.underlying111] at h
  cases h
  intro w
  simp [Tryz.sizeOf3]
theorem places125 {fs : Array Field} (h : Tryz.prog.underlying 125 = some (.struct fs)) : ∀ w, (fs.mapM (m := Sem) fun f => Prod.mk f.offset <$> sizeOf f.type).run Tryz.prog w = .ok #[(0, 1), (1, 1)] w := by
  rw [Tryz.underlying125] at h
  cases h
  intro w
  simp [Tryz.sizeOf121, Tryz.sizeOf123]
theorem places130 {fs : Array Field} (h : Tryz.prog.underlying 130 = some (.struct fs)) : ∀ w, (fs.mapM (m := Sem) fun f => Prod.mk f.offset <$> sizeOf f.type).run Tryz.prog w = .ok #[(0, 1), (1, 1)] w := by
  rw [Tryz.underlying130] at h
  cases h
  intro w
  simp [Tryz.sizeOf3]
theorem fint23 {fs : Array Field} (h : Tryz.prog.underlying 23 = some (.struct fs)) : FInt Tryz.prog 0 fs.toList := by
  rw [Tryz.underlying23] at h
  cases h
  exact ⟨rfl, (by decide), Tryz.underlying3, rfl, (by decide), Tryz.underlying3, rfl, (by decide), Tryz.underlying3, rfl, (by decide), Tryz.underlying3, rfl, (by decide), Tryz.underlying3, rfl, (by decide), Tryz.underlying3, rfl, (by decide), Tryz.underlying3, rfl, (by decide), Tryz.underlying3, rfl, (by decide), Tryz.underlying3, rfl, (by decide), Tryz.underlying3, rfl, (by decide), Tryz.underlying3, rfl, (by decide), Tryz.underlying3, trivial⟩
theorem fint130 {fs : Array Field} (h : Tryz.prog.underlying 130 = some (.struct fs)) : FInt Tryz.prog 0 fs.toList := by
  rw [Tryz.underlying130] at h
  cases h
  exact ⟨rfl, (by decide), Tryz.underlying3, rfl, (by decide), Tryz.underlying3, trivial⟩

end Go.Proofs.YtnkhmbbnabejhaaGreatDoor
