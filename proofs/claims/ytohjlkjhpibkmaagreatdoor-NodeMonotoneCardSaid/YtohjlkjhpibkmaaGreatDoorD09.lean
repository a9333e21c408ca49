/-
  Rules and plain laws that the walks use.
-/
import Derived.Test.YtohjlkjhpibkmaaGreatDoorD06
set_option linter.unusedSimpArgs false
set_option linter.unusedVariables false
namespace Go.Proofs.YtohjlkjhpibkmaaGreatDoor
open Go Go.LK
set_option maxRecDepth 100000
theorem nodeMonotone_k25:(Tryz.prog.mayEnter)=true:=by kernel_rfl
theorem nodeMonotone_k22:(Rows.nodeMonotoneRow.plainKeys == Tryz.prog.plainKeys)=true:=by kernel_rfl
theorem nodeMonotone_k24:(Tryz.prog.stopsHeard)=true:=by kernel_rfl
end Go.Proofs.YtohjlkjhpibkmaaGreatDoor
