/-
  Rules and plain laws that the walks use.
-/
import Derived.Test.YtohjlkjhpibkmaaGreatDoorC06
set_option linter.unusedSimpArgs false
set_option linter.unusedVariables false
namespace Go.Proofs.YtohjlkjhpibkmaaGreatDoor
open Go Go.LK
set_option maxRecDepth 100000
theorem nodeBounds_k25:(Tryz.prog.mayEnter)=true:=by kernel_rfl
theorem nodeBounds_k22:(Rows.nodeBoundsRow.plainKeys == Tryz.prog.plainKeys)=true:=by kernel_rfl
theorem nodeBounds_k24:(Tryz.prog.stopsHeard)=true:=by kernel_rfl
end Go.Proofs.YtohjlkjhpibkmaaGreatDoor
