/-
  Rules and plain laws that the walks use.
-/
import Derived.Test.YtohjlkjhpibkmaaGreatDoorE07
set_option linter.all false
namespace Go.Proofs.YtohjlkjhpibkmaaGreatDoor
open Go Go.LK
set_option maxRecDepth 100000
def aqk:(Tryz.prog.mayEnter)=true:=by kernel_rfl
def aqh:(Rows.nodePlaysRow.plainKeys == Tryz.prog.plainKeys)=true:=by kernel_rfl
def aqj:(Tryz.prog.stopsHeard)=true:=by kernel_rfl
end Go.Proofs.YtohjlkjhpibkmaaGreatDoor
