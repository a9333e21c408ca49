/-
  Rules and plain laws that the walks use.
-/
import Derived.Test.YtohjlkjhpibkmaaGreatDoorC06
set_option linter.unusedSimpArgs false
set_option linter.unusedVariables false
namespace Go.Proofs.YtohjlkjhpibkmaaGreatDoor
open Go Go.LK
set_option maxRecDepth 100000
theorem nodeBounds_k11:(Rows.nodeBoundsRow.recurses == Tryz.prog.recurses 3)=true:=by kernel_rfl
theorem nodeBounds_k12:(Rows.nodeBoundsRow.named == Tryz.prog.varsNamed 3)=true:=by kernel_rfl
end Go.Proofs.YtohjlkjhpibkmaaGreatDoor
