/-
  Rules and plain laws that the walks use.
-/
import Derived.Test.YtohjlkjhpibkmaaGreatDoorE07
set_option linter.all false
namespace Go.Proofs.YtohjlkjhpibkmaaGreatDoor
open Go Go.LK
set_option maxRecDepth 100000
def aqx:(Rows.nodePlaysRow.inPlace == Tryz.prog.inPlace 7)=true:=by kernel_rfl
def ap6:(Rows.nodePlaysRow.unfollowed == Tryz.prog.unfollowed 7)=true:=by kernel_rfl
end Go.Proofs.YtohjlkjhpibkmaaGreatDoor
