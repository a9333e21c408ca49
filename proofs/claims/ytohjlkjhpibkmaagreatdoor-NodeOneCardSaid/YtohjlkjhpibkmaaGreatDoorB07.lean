/-
  Rules and plain laws that the walks use.
-/
import Derived.Test.YtohjlkjhpibkmaaGreatDoorB06
set_option linter.unusedSimpArgs false
set_option linter.unusedVariables false
namespace Go.Proofs.YtohjlkjhpibkmaaGreatDoor
open Go Go.LK
set_option maxRecDepth 100000
theorem nodeOne_k9:(Rows.nodeOneRow.inPlace == Tryz.prog.inPlace 4)=true:=by kernel_rfl
theorem nodeOne_k10:(Rows.nodeOneRow.unfollowed == Tryz.prog.unfollowed 4)=true:=by kernel_rfl
end Go.Proofs.YtohjlkjhpibkmaaGreatDoor
