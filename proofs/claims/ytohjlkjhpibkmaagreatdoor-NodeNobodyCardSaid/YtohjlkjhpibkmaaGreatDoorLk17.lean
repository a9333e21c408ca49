/-
  Structs of one struct: compared as the lists of their integers; interface values held against nil.
-/
import Derived.Test.YtohjlkjhpibkmaaGreatDoorLk16
namespace Go.LK
open Go Go.RowKit

section
variable {c : Cx} {E : Env} {x y : Operand} {T ty : TypeId} {f : Field} {fs : Array Field}

theorem Pu.isSome {ms : Array (String × TypeId)} {t' : TypeId} {v : Value} (hT : c.P.underlying T = some (.interface ms)) (hx : ev E x = some (.iface t' v)) : Pu c E (.binOp .neq T x (.const .nilIface) T) ty (.bool true) := fun a w h _ _ _ _ => by
  have h2 : a.eval (.const .nilIface) = .nilIface := rfl
  have h3 : ∀ d, (Op.equalIn (d + 1) T (.iface t' v) .nilIface).run c.P w = .ok false w := fun d => by simp [Op.equalIn, run_underlying hT]
  have h4 : (binOp .neq T (.iface t' v) .nilIface).run c.P w = .ok (.bool true) w := by
    show (do pure (.bool (!(← Op.equal T (.iface t' v) .nilIface))) : Sem Value).run c.P w = _
    rw [Sem.run_bind, show Op.equal T (.iface t' v) .nilIface = Op.equalIn (9999 + 1) T (.iface t' v) .nilIface from rfl, h3]
    rfl
  have h5 : eqGuard .neq T x (.const .nilIface) (.iface t' v) .nilIface = pure () := by cases x <;> rfl
  simp only [execOp, h.ev hx, h2, h5]
  simp [h4]
end
end Go.LK
