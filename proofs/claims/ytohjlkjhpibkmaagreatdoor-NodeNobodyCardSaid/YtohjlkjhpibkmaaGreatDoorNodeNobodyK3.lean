/-
  Closed facts of the row of NodeNobody.
-/
import Derived.Test.YtohjlkjhpibkmaaGreatDoorLawN
namespace Go.Proofs.YtohjlkjhpibkmaaGreatDoor
open Go Go.LK
set_option maxRecDepth 100000
theorem nodeNobody_k25 : (Tryz.prog.mayEnter) = true := by kernel_rfl
theorem nodeNobody_k22 : (Rows.nodeNobodyRow.plainKeys == Tryz.prog.plainKeys) = true := by kernel_rfl
theorem nodeNobody_k24 : (Tryz.prog.stopsHeard) = true := by kernel_rfl
end Go.Proofs.YtohjlkjhpibkmaaGreatDoor
