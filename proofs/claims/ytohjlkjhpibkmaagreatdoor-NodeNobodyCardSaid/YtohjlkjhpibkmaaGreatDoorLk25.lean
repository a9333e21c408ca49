/-
  Builders: a text's bytes behind a row of bytes; a row of bytes as a text; pointers held against nil, and turned; a function that hands back what it is given; the last bits of an integer.
-/
import Derived.Test.YtohjlkjhpibkmaaGreatDoorLk24
import Derived.Lib.Builder
import Derived.Lib.AppendStr
import Derived.Lib.UnsafeStr
import Derived.Laws.Externs
import Derived.Laws.Pointers
namespace Go.LK
open Go Go.RowKit

def encB (b : UInt8) : List Value := [.int .u8 b.toNat]
theorem encB.one {l : List UInt8} : ∀ a ∈ l, (encB a).all Value.oneCell' = true := fun _ _ => rfl

section
variable {c : Cx} {k : List It} {E : Env} {L : List Sp} {ops : Array Oper} {rest : List Oper} {ty : TypeId} {v V : Value} {x y z : Operand} {T t S D : TypeId}

/-! ### Pointers -/
theorem Pu.nilEq {e : TypeId} (hT : c.P.underlying T = some (.pointer e)) (hx : ev E x = some (.pointer none)) : Pu c E (.binOp .eql T x (.const (.pointer none)) T) ty (.bool true) := fun a w h _ _ _ _ => by
  have h3 : ∀ d, (Op.equalIn (d + 1) T (.pointer none) (.pointer none)).run c.P w = .ok true w := fun d => by simp [Op.equalIn, run_underlying hT]
  have h4 : (binOp .eql T (.pointer none) (.pointer none)).run c.P w = .ok (.bool true) w := by
    simp only [binOp]
    simp [Op.equal, Op.maxDepth, h3 9999]
  have h5 : eqGuard .eql T x (.const (.pointer none)) (.pointer none) (.pointer none) = pure () := by cases x <;> rfl
  have h2 : a.eval (.const (.pointer none)) = .pointer none := rfl
  simp only [execOp, h.ev hx, h2, h5]
  simp [h4]
theorem Pu.someEq {e : TypeId} {ad : Addr} (hT : c.P.underlying T = some (.pointer e)) (hx : ev E x = some (.pointer (some ad))) : Pu c E (.binOp .eql T x (.const (.pointer none)) T) ty (.bool false) := fun a w h _ _ _ _ => by
  have h3 : ∀ d, (Op.equalIn (d + 1) T (.pointer (some ad)) (.pointer none)).run c.P w = .ok false w := fun d => by simp [Op.equalIn, run_underlying hT]
  have h4 : (binOp .eql T (.pointer (some ad)) (.pointer none)).run c.P w = .ok (.bool false) w := by
    simp only [binOp]
    simp [Op.equal, Op.maxDepth, h3 9999]
  have h5 : eqGuard .eql T x (.const (.pointer none)) (.pointer (some ad)) (.pointer none) = pure () := by cases x <;> rfl
  have h2 : a.eval (.const (.pointer none)) = .pointer none := rfl
  simp only [execOp, h.ev hx, h2, h5]
  simp [h4]

/-! ### Bits -/
end
end Go.LK
