/-
  Rules and plain laws that the walks use.
-/
import Derived.Test.YtohjlkjhpibkmaaGreatDoorA06
namespace Go.Proofs.YtohjlkjhpibkmaaGreatDoor
open Go Go.LK
set_option maxRecDepth 100000
theorem nodeEpochs_k11:(Rows.nodeEpochsRow.recurses == Tryz.prog.recurses 6)=true:=by kernel_rfl
theorem nodeEpochs_k12:(Rows.nodeEpochsRow.named == Tryz.prog.varsNamed 6)=true:=by kernel_rfl
end Go.Proofs.YtohjlkjhpibkmaaGreatDoor
