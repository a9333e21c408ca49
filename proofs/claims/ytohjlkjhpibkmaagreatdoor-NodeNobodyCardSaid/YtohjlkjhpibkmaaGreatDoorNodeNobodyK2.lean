/-
  Closed facts of the row of NodeNobody.
-/
import Derived.Test.YtohjlkjhpibkmaaGreatDoorLawN
namespace Go.Proofs.YtohjlkjhpibkmaaGreatDoor
open Go Go.LK
set_option maxRecDepth 100000
theorem nodeNobody_k11 : (Rows.nodeNobodyRow.recurses == Tryz.prog.recurses 8) = true := by kernel_rfl
theorem nodeNobody_k12 : (Rows.nodeNobodyRow.named == Tryz.prog.varsNamed 8) = true := by kernel_rfl
end Go.Proofs.YtohjlkjhpibkmaaGreatDoor
