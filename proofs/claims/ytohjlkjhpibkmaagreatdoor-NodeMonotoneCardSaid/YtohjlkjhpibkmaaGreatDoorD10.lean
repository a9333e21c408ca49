/-
  Rules and plain laws that the walks use.
-/
import Derived.Test.YtohjlkjhpibkmaaGreatDoorD06
set_option linter.unusedSimpArgs false
set_option linter.unusedVariables false
namespace Go.Proofs.YtohjlkjhpibkmaaGreatDoor
open Go Go.LK
set_option maxRecDepth 100000
theorem nodeMonotone_k2:(mapsRowed Tryz.prog)=true:=by kernel_rfl
theorem nodeMonotone_k26:(Rows.nodeMonotoneRow.lifted == Tryz.prog.liftsFinal)=true:=by kernel_rfl
theorem nodeMonotone_k27:(Tryz.prog.make == some Rows.nodeMonotoneRow.make)=true:=by kernel_rfl
theorem nodeMonotone_fnm : Tryz.prog.funcNamed "lockkeeper/lockkeeperlaw35.NodeMonotone" = some 5 := by kernel_rfl
theorem nodeMonotone_lk:false=Tryz.prog.looks []:=by kernel_rfl
theorem nodeMonotone_gb:false=Rows.nodeMonotoneRow.goesBy Tryz.prog:=by kernel_rfl
theorem nodeMonotone_mn : Tryz.prog.mainIs = some (((true, "1d7782d94166bd24611b28d86d543569072fb17d21890aae93bda4ab5a4ab09a")).1, ((true, "1d7782d94166bd24611b28d86d543569072fb17d21890aae93bda4ab5a4ab09a")).2.toList) := by kernel_rfl
end Go.Proofs.YtohjlkjhpibkmaaGreatDoor
