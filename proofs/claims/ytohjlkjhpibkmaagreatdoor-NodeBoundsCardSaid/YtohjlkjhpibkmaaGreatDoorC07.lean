/-
  Rules and plain laws that the walks use.
-/
import Derived.Test.YtohjlkjhpibkmaaGreatDoorC06
set_option linter.unusedSimpArgs false
set_option linter.unusedVariables false
namespace Go.Proofs.YtohjlkjhpibkmaaGreatDoor
open Go Go.LK
set_option maxRecDepth 100000
theorem nodeBounds_k9:(Rows.nodeBoundsRow.inPlace == Tryz.prog.inPlace 3)=true:=by kernel_rfl
theorem nodeBounds_k10:(Rows.nodeBoundsRow.unfollowed == Tryz.prog.unfollowed 3)=true:=by kernel_rfl
end Go.Proofs.YtohjlkjhpibkmaaGreatDoor
