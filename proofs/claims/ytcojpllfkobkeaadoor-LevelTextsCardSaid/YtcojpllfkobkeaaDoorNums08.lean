/-
  Closed facts of the program: sizes and zero values of element types, the places of fields.
-/
import Derived.KernelRfl
import Derived.Test.YtcojpllfkobkeaaDoorLk18
import Derived.Test.YtcojpllfkobkeaaDoorProg
namespace Go.Proofs.YtcojpllfkobkeaaDoor
open Go Go.LK
set_option linter.unusedSimpArgs false

theorem Tryd.mixed : Tryd.prog.follows .mixedOrders = true := by kernel_rfl
theorem places24 {fs : Array Field} (h : Tryd.prog.underlying 24 = some (.struct fs)) : ∀ w, (fs.mapM (m := Sem) fun f => Prod.mk f.offset <$> sizeOf f.type).run Tryd.prog w = .ok #[(0, 1), (1, 1)] w := by
  rw [Tryd.underlying24] at h
  cases h
  intro w
  simp [Tryd.sizeOf3]
theorem places26 {fs : Array Field} (h : Tryd.prog.underlying 26 = some (.struct fs)) : ∀ w, (fs.mapM (m := Sem) fun f => Prod.mk f.offset <$> sizeOf f.type).run Tryd.prog w = .ok #[(0, 2)] w := by
  rw [Tryd.underlying26] at h
  cases h
  intro w
  simp [Tryd.sizeOf24]
theorem fint24 {fs : Array Field} (h : Tryd.prog.underlying 24 = some (.struct fs)) : FInt Tryd.prog 0 fs.toList := by
  rw [Tryd.underlying24] at h
  cases h
  exact ⟨rfl, (by decide), Tryd.underlying3, rfl, (by decide), Tryd.underlying3, trivial⟩

end Go.Proofs.YtcojpllfkobkeaaDoor
