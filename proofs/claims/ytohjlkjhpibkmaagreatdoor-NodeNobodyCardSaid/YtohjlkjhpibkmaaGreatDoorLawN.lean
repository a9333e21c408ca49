/-
  What the rows of nodes share: the listed package variables, and a world that holds them.
-/
import Derived.Test.YtohjlkjhpibkmaaGreatDoorLawA
import Derived.Test.YtohjlkjhpibkmaaGreatDoorRows
import Derived.Test.YtohjlkjhpibkmaaGreatDoorTie
import Derived.Test.YtohjlkjhpibkmaaGreatDoorCards
import Derived.ProofKit
import Derived.LaidLaws
import Derived.Lay
import Derived.LaidMore
import Derived.LaidByTextLater
namespace Go.Proofs.YtohjlkjhpibkmaaGreatDoor
open Go Go.LK Go.ChangeShapes Go.WideShapes Go.ChangeAt Go.RowKit
set_option maxRecDepth 100000

theorem Tryz.own : ownKnob Tryz.prog.godebug = none := by kernel_rfl
theorem Tryz.laidOut : laidOutB Tryz.prog = true := by kernel_rfl
abbrev laidL : List (String × DataW Unit) := [("lockkeeper/push.widths", Rows.laid_lockkeeper_push_widths), ("lockkeeper/reply.names", Rows.laid_lockkeeper_reply_names)]
theorem door_met (os : Os) (args : Array Value) : laidMetH Tryz.prog laidL ((World.laidAll Tryz.prog os laidL).forCall (fun _ _ => 0) ⟨#[], args, []⟩).memory := by
  rw [MakeChecks.laidMetH_plain _ _ _ (by kernel_rfl)]
  exact laidMet_laidAll _ (by kernel_rfl) (by kernel_rfl)

end Go.Proofs.YtohjlkjhpibkmaaGreatDoor
