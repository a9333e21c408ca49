/-
  Rules and plain laws that the walks use.
-/
import Derived.Test.YtohjlkjhpibkmaaGreatDoorC06
set_option linter.unusedSimpArgs false
set_option linter.unusedVariables false
namespace Go.Proofs.YtohjlkjhpibkmaaGreatDoor
open Go Go.LK
set_option maxRecDepth 100000
theorem nodeBounds_k2:(mapsRowed Tryz.prog)=true:=by kernel_rfl
theorem nodeBounds_k26:(Rows.nodeBoundsRow.lifted == Tryz.prog.liftsFinal)=true:=by kernel_rfl
theorem nodeBounds_k27:(Tryz.prog.make == some Rows.nodeBoundsRow.make)=true:=by kernel_rfl
theorem nodeBounds_fnm : Tryz.prog.funcNamed "lockkeeper/lockkeeperlaw35.NodeBounds" = some 3 := by kernel_rfl
theorem nodeBounds_lk:false=Tryz.prog.looks []:=by kernel_rfl
theorem nodeBounds_gb:false=Rows.nodeBoundsRow.goesBy Tryz.prog:=by kernel_rfl
theorem nodeBounds_mn : Tryz.prog.mainIs = some (((true, "1d7782d94166bd24611b28d86d543569072fb17d21890aae93bda4ab5a4ab09a")).1, ((true, "1d7782d94166bd24611b28d86d543569072fb17d21890aae93bda4ab5a4ab09a")).2.toList) := by kernel_rfl
end Go.Proofs.YtohjlkjhpibkmaaGreatDoor
