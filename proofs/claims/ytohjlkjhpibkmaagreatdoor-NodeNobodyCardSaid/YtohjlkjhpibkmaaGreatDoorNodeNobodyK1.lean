/-
  Closed facts of the row of NodeNobody.
-/
import Derived.Test.YtohjlkjhpibkmaaGreatDoorLawN
namespace Go.Proofs.YtohjlkjhpibkmaaGreatDoor
open Go Go.LK
set_option maxRecDepth 100000
theorem nodeNobody_k9 : (Rows.nodeNobodyRow.inPlace == Tryz.prog.inPlace 8) = true := by kernel_rfl
theorem nodeNobody_k10 : (Rows.nodeNobodyRow.unfollowed == Tryz.prog.unfollowed 8) = true := by kernel_rfl
end Go.Proofs.YtohjlkjhpibkmaaGreatDoor
