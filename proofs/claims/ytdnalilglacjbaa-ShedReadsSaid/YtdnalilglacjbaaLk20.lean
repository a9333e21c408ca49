/-
  Arrays whose elements are one cell each, by lists: an element at an index that is not known; a text of bytes.
-/
import Derived.Test.YtdnalilglacjbaaLkC
import Derived.Laws.BytesString
namespace Go.LK
open Go Go.RowKit

section
variable {c : Cx} {E : Env} {L : List Sp} {x y : Operand} {T ty : TypeId} {kd : IntKind}
theorem Pu.indexAddrG {len e g off s : Nat} {m : Int} (hT : ∀ w, (underlying T).run c.P w = .ok (.array len e) w) (hs : ∀ w, (sizeOf e).run c.P w = .ok s w)
    (hx : ev E x = some (.pointer (some ⟨g, off, none⟩))) (hy : ev E y = some (.int kd m)) (h0 : 0 ≤ m) (h1 : m < len) : Pu c E (.indexAddr T x y) ty (.pointer (some ⟨g, off + m.toNat * s, none⟩)) := fun a w ha _ _ _ _ => by
  have hadd : Addr.add ⟨g, off, none⟩ (m.toNat * s) = ⟨g, off + m.toNat * s, none⟩ := by unfold Addr.add; split <;> simp_all
  simp [execOp, ha.ev hx, ha.ev hy, Instr.indexAt, Instr.sureAddr, asIntOf, hT, hs, h0, h1, hadd]
end

section
variable {c : Cx} {E : Env} {L : List Sp} {x : Operand} {S D ty : TypeId}
end
end Go.LK
