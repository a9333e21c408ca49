/-
  Rules and plain laws that the walks use.
-/
import Derived.Test.YtohjlkjhpibkmaaGreatDoorE07
set_option linter.all false
namespace Go.Proofs.YtohjlkjhpibkmaaGreatDoor
open Go Go.LK
set_option maxRecDepth 100000
def ap7:(Rows.nodePlaysRow.recurses == Tryz.prog.recurses 7)=true:=by kernel_rfl
def ap8:(Rows.nodePlaysRow.named == Tryz.prog.varsNamed 7)=true:=by kernel_rfl
end Go.Proofs.YtohjlkjhpibkmaaGreatDoor
