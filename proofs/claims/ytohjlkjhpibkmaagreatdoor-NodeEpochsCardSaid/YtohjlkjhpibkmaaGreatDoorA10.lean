/-
  Rules and plain laws that the walks use.
-/
import Derived.Test.YtohjlkjhpibkmaaGreatDoorA06
namespace Go.Proofs.YtohjlkjhpibkmaaGreatDoor
open Go Go.LK
set_option maxRecDepth 100000
theorem nodeEpochs_k2:(mapsRowed Tryz.prog)=true:=by kernel_rfl
theorem nodeEpochs_k26:(Rows.nodeEpochsRow.lifted == Tryz.prog.liftsFinal)=true:=by kernel_rfl
theorem nodeEpochs_k27:(Tryz.prog.make == some Rows.nodeEpochsRow.make)=true:=by kernel_rfl
theorem nodeEpochs_fnm : Tryz.prog.funcNamed "lockkeeper/lockkeeperlaw35.NodeEpochs" = some 6 := by kernel_rfl
theorem nodeEpochs_lk:false=Tryz.prog.looks []:=by kernel_rfl
theorem nodeEpochs_gb:false=Rows.nodeEpochsRow.goesBy Tryz.prog:=by kernel_rfl
theorem nodeEpochs_mn : Tryz.prog.mainIs = some (((true, "1d7782d94166bd24611b28d86d543569072fb17d21890aae93bda4ab5a4ab09a")).1, ((true, "1d7782d94166bd24611b28d86d543569072fb17d21890aae93bda4ab5a4ab09a")).2.toList) := by kernel_rfl
end Go.Proofs.YtohjlkjhpibkmaaGreatDoor
