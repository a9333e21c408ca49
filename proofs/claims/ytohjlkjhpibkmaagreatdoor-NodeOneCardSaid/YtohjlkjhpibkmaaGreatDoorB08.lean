/-
  Rules and plain laws that the walks use.
-/
import Derived.Test.YtohjlkjhpibkmaaGreatDoorB06
set_option linter.unusedSimpArgs false
set_option linter.unusedVariables false
namespace Go.Proofs.YtohjlkjhpibkmaaGreatDoor
open Go Go.LK
set_option maxRecDepth 100000
theorem nodeOne_k11:(Rows.nodeOneRow.recurses == Tryz.prog.recurses 4)=true:=by kernel_rfl
theorem nodeOne_k12:(Rows.nodeOneRow.named == Tryz.prog.varsNamed 4)=true:=by kernel_rfl
end Go.Proofs.YtohjlkjhpibkmaaGreatDoor
