/-
  Closed facts of the program: sizes and zero values of element types, the places of fields.
-/
import Derived.KernelRfl
import Derived.Test.YtnkhmbbnabejhaaGreatDoorLkD
import Derived.Test.YtnkhmbbnabejhaaGreatDoorNumsR
namespace Go.Proofs.YtnkhmbbnabejhaaGreatDoor
open Go Go.LK
set_option linter.unusedSimpArgs false

theorem info5 : Tryz.prog.info? 5 = some Tryz.t5 ∧ Tryz.t5.zero = some (.int .u8 0) ∧ Tryz.t5.size = 1 ∧ Tryz.t5.bytes = 1 := ⟨by kernel_rfl, by kernel_rfl, by kernel_rfl, by kernel_rfl⟩
theorem info83 : Tryz.prog.info? 83 = some Tryz.t83 ∧ Tryz.t83.zero = some (.agg #[Value.pointer none, Value.slice none 0 0]) ∧ Tryz.t83.size = 2 ∧ Tryz.t83.bytes = 32 := ⟨by kernel_rfl, by kernel_rfl, by kernel_rfl, by kernel_rfl⟩
theorem places74 {fs : Array Field} (h : Tryz.prog.underlying 74 = some (.struct fs)) : ∀ w, (fs.mapM (m := Sem) fun f => Prod.mk f.offset <$> sizeOf f.type).run Tryz.prog w = .ok #[(0, 1), (1, 1)] w := by
  rw [Tryz.underlying74] at h
  cases h
  intro w
  simp [Tryz.sizeOf3]
theorem places76 {fs : Array Field} (h : Tryz.prog.underlying 76 = some (.struct fs)) : ∀ w, (fs.mapM (m := Sem) fun f => Prod.mk f.offset <$> sizeOf f.type).run Tryz.prog w = .ok #[(0, 2)] w := by
  rw [Tryz.underlying76] at h
  cases h
  intro w
  simp [Tryz.sizeOf74]

end Go.Proofs.YtnkhmbbnabejhaaGreatDoor
