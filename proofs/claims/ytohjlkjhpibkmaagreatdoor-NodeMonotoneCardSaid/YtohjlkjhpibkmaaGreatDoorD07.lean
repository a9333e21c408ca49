/-
  Rules and plain laws that the walks use.
-/
import Derived.Test.YtohjlkjhpibkmaaGreatDoorD06
set_option linter.unusedSimpArgs false
set_option linter.unusedVariables false
namespace Go.Proofs.YtohjlkjhpibkmaaGreatDoor
open Go Go.LK
set_option maxRecDepth 100000
theorem nodeMonotone_k9:(Rows.nodeMonotoneRow.inPlace == Tryz.prog.inPlace 5)=true:=by kernel_rfl
theorem nodeMonotone_k10:(Rows.nodeMonotoneRow.unfollowed == Tryz.prog.unfollowed 5)=true:=by kernel_rfl
end Go.Proofs.YtohjlkjhpibkmaaGreatDoor
