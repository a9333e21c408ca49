/-
  Closed facts of the program: sizes and zero values of element types, the places of fields.
-/
import Derived.KernelRfl
import Derived.Test.YtnfkoohgdcocdaaDoorLk25
import Derived.Test.YtnfkoohgdcocdaaDoorProg
namespace Go.Proofs.YtnfkoohgdcocdaaDoor
open Go Go.LK
set_option linter.unusedSimpArgs false

theorem info5 : Tryd.prog.info? 5 = some Tryd.t5 ∧ Tryd.t5.zero = some (.int .u8 0) ∧ Tryd.t5.size = 1 ∧ Tryd.t5.bytes = 1 := ⟨by kernel_rfl, by kernel_rfl, by kernel_rfl, by kernel_rfl⟩
theorem info115 : Tryd.prog.info? 115 = some Tryd.t115 ∧ Tryd.t115.zero = some (.agg #[Value.pointer none, Value.slice none 0 0]) ∧ Tryd.t115.size = 2 ∧ Tryd.t115.bytes = 32 := ⟨by kernel_rfl, by kernel_rfl, by kernel_rfl, by kernel_rfl⟩

end Go.Proofs.YtnfkoohgdcocdaaDoor
