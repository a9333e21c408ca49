/-
  Builders: a text's bytes behind a row of bytes; a row of bytes as a text; pointers held against nil, and turned; a function that hands back what it is given; the last bits of an integer.
-/
import Derived.Test.YtdnalilglacjbaaLk24
import Derived.Lib.Builder
import Derived.Lib.AppendStr
import Derived.Lib.UnsafeStr
import Derived.Laws.Externs
import Derived.Laws.Pointers
namespace Go.LK
open Go Go.RowKit

def encB (b : UInt8) : List Value := [.int .u8 b.toNat]
theorem encB.one {l : List UInt8} : ∀ a ∈ l, (encB a).all Value.oneCell' = true := fun _ _ => rfl

section
variable {c : Cx} {k : List It} {E : Env} {L : List Sp} {ops : Array Oper} {rest : List Oper} {ty : TypeId} {v V : Value} {x y z : Operand} {T t S D : TypeId}

/-! ### Pointers -/

/-! ### Bits -/
end
end Go.LK
