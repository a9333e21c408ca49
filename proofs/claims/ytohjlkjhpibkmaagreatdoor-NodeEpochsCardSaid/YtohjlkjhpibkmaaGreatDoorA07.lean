/-
  Rules and plain laws that the walks use.
-/
import Derived.Test.YtohjlkjhpibkmaaGreatDoorA06
namespace Go.Proofs.YtohjlkjhpibkmaaGreatDoor
open Go Go.LK
set_option maxRecDepth 100000
theorem nodeEpochs_k9:(Rows.nodeEpochsRow.inPlace == Tryz.prog.inPlace 6)=true:=by kernel_rfl
theorem nodeEpochs_k10:(Rows.nodeEpochsRow.unfollowed == Tryz.prog.unfollowed 6)=true:=by kernel_rfl
end Go.Proofs.YtohjlkjhpibkmaaGreatDoor
