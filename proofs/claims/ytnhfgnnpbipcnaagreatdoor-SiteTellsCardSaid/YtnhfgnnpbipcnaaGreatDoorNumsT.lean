/-
  Closed facts of the program: sizes and zero values of element types, the places of fields.
-/
import Derived.KernelRfl
import Derived.Test.YtnhfgnnpbipcnaaGreatDoorLkL
import Derived.Test.YtnhfgnnpbipcnaaGreatDoorProg
namespace Go.Proofs.YtnhfgnnpbipcnaaGreatDoor
open Go Go.LK
set_option linter.unusedSimpArgs false

theorem Tryz.mixed : Tryz.prog.follows .mixedOrders = true := by kernel_rfl
theorem info3 : Tryz.prog.info? 3 = some Tryz.t3 ∧ Tryz.t3.zero = some (.int .i64 0) ∧ Tryz.t3.size = 1 ∧ Tryz.t3.bytes = 8 := ⟨by kernel_rfl, by kernel_rfl, by kernel_rfl, by kernel_rfl⟩
theorem info4 : Tryz.prog.info? 4 = some Tryz.t4 ∧ Tryz.t4.zero = some (.bool false) ∧ Tryz.t4.size = 1 ∧ Tryz.t4.bytes = 1 := ⟨by kernel_rfl, by kernel_rfl, by kernel_rfl, by kernel_rfl⟩
theorem info9 : Tryz.prog.info? 9 = some Tryz.t9 ∧ Tryz.t9.zero = some (str ([] : List UInt8)) ∧ Tryz.t9.size = 1 ∧ Tryz.t9.bytes = 16 := ⟨by kernel_rfl, by kernel_rfl, by kernel_rfl, by kernel_rfl⟩
theorem info47 : Tryz.prog.info? 47 = some Tryz.t47 ∧ Tryz.t47.zero = some (.agg #[.int .i64 0, .int .i64 0, .int .i64 0, .int .i64 0, .int .i64 0, .int .i64 0, .int .i64 0, .int .i64 0, .int .i64 0, .int .i64 0, .int .i64 0, .int .i64 0, .int .i64 0, Value.slice none 0 0]) ∧ Tryz.t47.size = 14 ∧ Tryz.t47.bytes = 128 := ⟨by kernel_rfl, by kernel_rfl, by kernel_rfl, by kernel_rfl⟩
theorem info50 : Tryz.prog.info? 50 = some Tryz.t50 ∧ Tryz.t50.zero = some (.agg #[.int .i64 0, .int .i64 0, .int .i64 0, .int .i64 0]) ∧ Tryz.t50.size = 4 ∧ Tryz.t50.bytes = 32 := ⟨by kernel_rfl, by kernel_rfl, by kernel_rfl, by kernel_rfl⟩
theorem places25 {fs : Array Field} (h : Tryz.prog.underlying 25 = some (.struct fs)) : ∀ w, (fs.mapM (m := Sem) fun f => Prod.mk f.offset <$> sizeOf f.type).run Tryz.prog w = .ok #[(0, 1), (1, 1), (2, 1), (3, 1), (4, 1)] w := by
  rw [Tryz.underlying25] at h
  cases h
  intro w
  simp [Tryz.sizeOf22, Tryz.sizeOf23, Tryz.sizeOf3]
theorem places44 {fs : Array Field} (h : Tryz.prog.underlying 44 = some (.struct fs)) : ∀ w, (fs.mapM (m := Sem) fun f => Prod.mk f.offset <$> sizeOf f.type).run Tryz.prog w = .ok #[(0, 1), (1, 1), (2, 1), (3, 1), (4, 1), (5, 1), (6, 1)] w := by
  rw [Tryz.underlying44] at h
  cases h
  intro w
  simp [Tryz.sizeOf3]
theorem places47 {fs : Array Field} (h : Tryz.prog.underlying 47 = some (.struct fs)) : ∀ w, (fs.mapM (m := Sem) fun f => Prod.mk f.offset <$> sizeOf f.type).run Tryz.prog w = .ok #[(0, 1), (1, 1), (2, 1), (3, 1), (4, 1), (5, 1), (6, 7), (13, 1)] w := by
  rw [Tryz.underlying47] at h
  cases h
  intro w
  simp [Tryz.sizeOf3, Tryz.sizeOf44, Tryz.sizeOf45]
theorem places50 {fs : Array Field} (h : Tryz.prog.underlying 50 = some (.struct fs)) : ∀ w, (fs.mapM (m := Sem) fun f => Prod.mk f.offset <$> sizeOf f.type).run Tryz.prog w = .ok #[(0, 1), (1, 1), (2, 1), (3, 1)] w := by
  rw [Tryz.underlying50] at h
  cases h
  intro w
  simp [Tryz.sizeOf3]
theorem places55 {fs : Array Field} (h : Tryz.prog.underlying 55 = some (.struct fs)) : ∀ w, (fs.mapM (m := Sem) fun f => Prod.mk f.offset <$> sizeOf f.type).run Tryz.prog w = .ok #[(0, 1), (1, 1)] w := by
  rw [Tryz.underlying55] at h
  cases h
  intro w
  simp [Tryz.sizeOf3]
theorem places57 {fs : Array Field} (h : Tryz.prog.underlying 57 = some (.struct fs)) : ∀ w, (fs.mapM (m := Sem) fun f => Prod.mk f.offset <$> sizeOf f.type).run Tryz.prog w = .ok #[(0, 2)] w := by
  rw [Tryz.underlying57] at h
  cases h
  intro w
  simp [Tryz.sizeOf55]
theorem places61 {fs : Array Field} (h : Tryz.prog.underlying 61 = some (.struct fs)) : ∀ w, (fs.mapM (m := Sem) fun f => Prod.mk f.offset <$> sizeOf f.type).run Tryz.prog w = .ok #[(0, 1), (1, 1), (2, 1)] w := by
  rw [Tryz.underlying61] at h
  cases h
  intro w
  simp [Tryz.sizeOf22, Tryz.sizeOf3]
theorem places81 {fs : Array Field} (h : Tryz.prog.underlying 81 = some (.struct fs)) : ∀ w, (fs.mapM (m := Sem) fun f => Prod.mk f.offset <$> sizeOf f.type).run Tryz.prog w = .ok #[(0, 5), (5, 1)] w := by
  rw [Tryz.underlying81] at h
  cases h
  intro w
  simp [Tryz.sizeOf25, Tryz.sizeOf39]
theorem fint50 {fs : Array Field} (h : Tryz.prog.underlying 50 = some (.struct fs)) : FInt Tryz.prog 0 fs.toList := by
  rw [Tryz.underlying50] at h
  cases h
  exact ⟨rfl, (by decide), Tryz.underlying3, rfl, (by decide), Tryz.underlying3, rfl, (by decide), Tryz.underlying3, rfl, (by decide), Tryz.underlying3, trivial⟩

end Go.Proofs.YtnhfgnnpbipcnaaGreatDoor
