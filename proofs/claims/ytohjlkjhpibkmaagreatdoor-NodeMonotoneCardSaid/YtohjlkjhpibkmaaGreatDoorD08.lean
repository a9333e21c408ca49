/-
  Rules and plain laws that the walks use.
-/
import Derived.Test.YtohjlkjhpibkmaaGreatDoorD06
set_option linter.unusedSimpArgs false
set_option linter.unusedVariables false
namespace Go.Proofs.YtohjlkjhpibkmaaGreatDoor
open Go Go.LK
set_option maxRecDepth 100000
theorem nodeMonotone_k11:(Rows.nodeMonotoneRow.recurses == Tryz.prog.recurses 5)=true:=by kernel_rfl
theorem nodeMonotone_k12:(Rows.nodeMonotoneRow.named == Tryz.prog.varsNamed 5)=true:=by kernel_rfl
end Go.Proofs.YtohjlkjhpibkmaaGreatDoor
