/-
  Rules and plain laws that the walks use.
-/
import Derived.Test.YtohjlkjhpibkmaaGreatDoorA06
namespace Go.Proofs.YtohjlkjhpibkmaaGreatDoor
open Go Go.LK
set_option maxRecDepth 100000
theorem nodeEpochs_k25:(Tryz.prog.mayEnter)=true:=by kernel_rfl
theorem nodeEpochs_k22:(Rows.nodeEpochsRow.plainKeys == Tryz.prog.plainKeys)=true:=by kernel_rfl
theorem nodeEpochs_k24:(Tryz.prog.stopsHeard)=true:=by kernel_rfl
end Go.Proofs.YtohjlkjhpibkmaaGreatDoor
