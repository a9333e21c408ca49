/-
  Rules and plain laws that the walks use.
-/
import Derived.Test.YtohjlkjhpibkmaaGreatDoorB06
set_option linter.unusedSimpArgs false
set_option linter.unusedVariables false
namespace Go.Proofs.YtohjlkjhpibkmaaGreatDoor
open Go Go.LK
set_option maxRecDepth 100000
theorem nodeOne_k25:(Tryz.prog.mayEnter)=true:=by kernel_rfl
theorem nodeOne_k22:(Rows.nodeOneRow.plainKeys == Tryz.prog.plainKeys)=true:=by kernel_rfl
theorem nodeOne_k24:(Tryz.prog.stopsHeard)=true:=by kernel_rfl
end Go.Proofs.YtohjlkjhpibkmaaGreatDoor
