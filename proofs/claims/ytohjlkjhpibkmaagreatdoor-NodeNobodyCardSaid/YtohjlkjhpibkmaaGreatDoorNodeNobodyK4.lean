/-
  Closed facts of the row of NodeNobody.
-/
import Derived.Test.YtohjlkjhpibkmaaGreatDoorLawN
namespace Go.Proofs.YtohjlkjhpibkmaaGreatDoor
open Go Go.LK
set_option maxRecDepth 100000
theorem nodeNobody_k2 : (mapsRowed Tryz.prog) = true := by kernel_rfl
theorem nodeNobody_k26 : (Rows.nodeNobodyRow.lifted == Tryz.prog.liftsFinal) = true := by kernel_rfl
theorem nodeNobody_k27 : (Tryz.prog.make == some Rows.nodeNobodyRow.make) = true := by kernel_rfl
theorem nodeNobody_fnm : Tryz.prog.funcNamed "lockkeeper/lockkeeperlaw35.NodeNobody" = some 8 := by kernel_rfl
theorem nodeNobody_lk : false = Tryz.prog.looks [] := by kernel_rfl
theorem nodeNobody_gb : false = Rows.nodeNobodyRow.goesBy Tryz.prog := by kernel_rfl
theorem nodeNobody_mn : Tryz.prog.mainIs = some (((true, "1d7782d94166bd24611b28d86d543569072fb17d21890aae93bda4ab5a4ab09a")).1, ((true, "1d7782d94166bd24611b28d86d543569072fb17d21890aae93bda4ab5a4ab09a")).2.toList) := by kernel_rfl
end Go.Proofs.YtohjlkjhpibkmaaGreatDoor
