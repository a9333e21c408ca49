/-
  Closed facts of the program: sizes and zero values of element types, the places of fields.
-/
import Derived.KernelRfl
import Derived.Test.YtnfkoohgdcocdaaDoorLk24
import Derived.Test.YtnfkoohgdcocdaaDoorProg
namespace Go.Proofs.YtnfkoohgdcocdaaDoor
open Go Go.LK
set_option linter.unusedSimpArgs false

theorem Tryd.mixed : Tryd.prog.follows .mixedOrders = true := by kernel_rfl
theorem info3 : Tryd.prog.info? 3 = some Tryd.t3 ∧ Tryd.t3.zero = some (.int .i64 0) ∧ Tryd.t3.size = 1 ∧ Tryd.t3.bytes = 8 := ⟨by kernel_rfl, by kernel_rfl, by kernel_rfl, by kernel_rfl⟩
theorem info9 : Tryd.prog.info? 9 = some Tryd.t9 ∧ Tryd.t9.zero = some (str ([] : List UInt8)) ∧ Tryd.t9.size = 1 ∧ Tryd.t9.bytes = 16 := ⟨by kernel_rfl, by kernel_rfl, by kernel_rfl, by kernel_rfl⟩
theorem info23 : Tryd.prog.info? 23 = some Tryd.t23 ∧ Tryd.t23.zero = some (.agg #[.int .i64 0, .int .i64 0, .int .i64 0, .int .i64 0, .int .i64 0, .int .i64 0, .int .i64 0]) ∧ Tryd.t23.size = 7 ∧ Tryd.t23.bytes = 56 := ⟨by kernel_rfl, by kernel_rfl, by kernel_rfl, by kernel_rfl⟩
theorem info62 : Tryd.prog.info? 62 = some Tryd.t62 ∧ Tryd.t62.zero = some (.agg #[.int .i64 0, .int .i64 0, .int .i64 0, .int .i64 0]) ∧ Tryd.t62.size = 4 ∧ Tryd.t62.bytes = 32 := ⟨by kernel_rfl, by kernel_rfl, by kernel_rfl, by kernel_rfl⟩
theorem places23 {fs : Array Field} (h : Tryd.prog.underlying 23 = some (.struct fs)) : ∀ w, (fs.mapM (m := Sem) fun f => Prod.mk f.offset <$> sizeOf f.type).run Tryd.prog w = .ok #[(0, 1), (1, 1), (2, 1), (3, 1), (4, 1), (5, 1), (6, 1)] w := by
  rw [Tryd.underlying23] at h
  cases h
  intro w
  simp [Tryd.sizeOf3]
theorem places50 {fs : Array Field} (h : Tryd.prog.underlying 50 = some (.struct fs)) : ∀ w, (fs.mapM (m := Sem) fun f => Prod.mk f.offset <$> sizeOf f.type).run Tryd.prog w = .ok #[(0, 1), (1, 1), (2, 1), (3, 1), (4, 1), (5, 1), (6, 1)] w := by
  rw [Tryd.underlying50] at h
  cases h
  intro w
  simp [Tryd.sizeOf3]
theorem places53 {fs : Array Field} (h : Tryd.prog.underlying 53 = some (.struct fs)) : ∀ w, (fs.mapM (m := Sem) fun f => Prod.mk f.offset <$> sizeOf f.type).run Tryd.prog w = .ok #[(0, 1), (1, 1), (2, 1), (3, 1), (4, 1), (5, 1), (6, 7), (13, 1)] w := by
  rw [Tryd.underlying53] at h
  cases h
  intro w
  simp [Tryd.sizeOf3, Tryd.sizeOf50, Tryd.sizeOf51]
theorem places62 {fs : Array Field} (h : Tryd.prog.underlying 62 = some (.struct fs)) : ∀ w, (fs.mapM (m := Sem) fun f => Prod.mk f.offset <$> sizeOf f.type).run Tryd.prog w = .ok #[(0, 1), (1, 1), (2, 1), (3, 1)] w := by
  rw [Tryd.underlying62] at h
  cases h
  intro w
  simp [Tryd.sizeOf3]
theorem fint23 {fs : Array Field} (h : Tryd.prog.underlying 23 = some (.struct fs)) : FInt Tryd.prog 0 fs.toList := by
  rw [Tryd.underlying23] at h
  cases h
  exact ⟨rfl, (by decide), Tryd.underlying3, rfl, (by decide), Tryd.underlying3, rfl, (by decide), Tryd.underlying3, rfl, (by decide), Tryd.underlying3, rfl, (by decide), Tryd.underlying3, rfl, (by decide), Tryd.underlying3, rfl, (by decide), Tryd.underlying3, trivial⟩
theorem fint50 {fs : Array Field} (h : Tryd.prog.underlying 50 = some (.struct fs)) : FInt Tryd.prog 0 fs.toList := by
  rw [Tryd.underlying50] at h
  cases h
  exact ⟨rfl, (by decide), Tryd.underlying3, rfl, (by decide), Tryd.underlying3, rfl, (by decide), Tryd.underlying3, rfl, (by decide), Tryd.underlying3, rfl, (by decide), Tryd.underlying3, rfl, (by decide), Tryd.underlying3, rfl, (by decide), Tryd.underlying3, trivial⟩
theorem fint62 {fs : Array Field} (h : Tryd.prog.underlying 62 = some (.struct fs)) : FInt Tryd.prog 0 fs.toList := by
  rw [Tryd.underlying62] at h
  cases h
  exact ⟨rfl, (by decide), Tryd.underlying3, rfl, (by decide), Tryd.underlying3, rfl, (by decide), Tryd.underlying3, rfl, (by decide), Tryd.underlying3, trivial⟩

end Go.Proofs.YtnfkoohgdcocdaaDoor
