/-
  Rules and plain laws that the walks use.
-/
import Derived.Test.YtohjlkjhpibkmaaGreatDoorE07
set_option linter.all false
namespace Go.Proofs.YtohjlkjhpibkmaaGreatDoor
open Go Go.LK
set_option maxRecDepth 100000
def aqe:(mapsRowed Tryz.prog)=true:=by kernel_rfl
def aql:(Rows.nodePlaysRow.lifted == Tryz.prog.liftsFinal)=true:=by kernel_rfl
def aqm:(Tryz.prog.make == some Rows.nodePlaysRow.make)=true:=by kernel_rfl
def Xu : Tryz.prog.funcNamed "lockkeeper/lockkeeperlaw35.NodePlays" = some 7 := by kernel_rfl
def aqz:false=Tryz.prog.looks []:=by kernel_rfl
def ap2:false=Rows.nodePlaysRow.goesBy Tryz.prog:=by kernel_rfl
def aqA : Tryz.prog.mainIs = some (((true, "1d7782d94166bd24611b28d86d543569072fb17d21890aae93bda4ab5a4ab09a")).1, ((true, "1d7782d94166bd24611b28d86d543569072fb17d21890aae93bda4ab5a4ab09a")).2.toList) := by kernel_rfl
end Go.Proofs.YtohjlkjhpibkmaaGreatDoor
