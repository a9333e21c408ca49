/-
  Rules and plain laws that the walks use.
-/
import Derived.Test.YtohjlkjhpibkmaaGreatDoorD03
import Derived.Test.YtohjlkjhpibkmaaGreatDoorD05
import Derived.Test.YtohjlkjhpibkmaaGreatDoorRows
import Derived.Test.YtohjlkjhpibkmaaGreatDoorTie
import Derived.Test.YtohjlkjhpibkmaaGreatDoorCards
import Derived.ProofKit
import Derived.LaidLaws
import Derived.Lay
import Derived.LaidMore
import Derived.LaidByTextLater
set_option linter.unusedSimpArgs false
set_option linter.unusedVariables false
namespace Go.Proofs.YtohjlkjhpibkmaaGreatDoor
open Go Go.LK Go.ChangeShapes Go.WideShapes Go.ChangeAt Go.RowKit
set_option maxRecDepth 100000
theorem Tryz.own:ownKnob Tryz.prog.godebug=none:=by kernel_rfl
theorem Tryz.laidOut:laidOutB Tryz.prog=true:=by kernel_rfl
abbrev laidL : List (String × DataW Unit) := [("lockkeeper/push.widths", Rows.laid_lockkeeper_push_widths), ("lockkeeper/reply.names", Rows.laid_lockkeeper_reply_names)]
theorem door_met (os:Os) (args:Array Value):laidMetH Tryz.prog laidL ((World.laidAll Tryz.prog os laidL).forCall (fun _ _=>0) ⟨#[],args,[]⟩).memory:=by
  rw [MakeChecks.laidMetH_plain _ _ _ (by kernel_rfl)]
  exact laidMet_laidAll _ (by kernel_rfl) (by kernel_rfl)
theorem cells_of_var {P:Program} {W:World} {name:String} {g:Nat} {cs:Array Value} (hg:P.globalNamed name=some g) (h:W.var? P name=some cs):∃ t p,W.heap[g]?=some (.cells cs t p):=by
  unfold World.var? at h
  rw [hg] at h
  simp only [Option.bind_some] at h
  split at h
  · rename_i c t p hh
    cases h
    exact ⟨t,p,hh⟩
  · cases h
theorem gL0 : Tryz.prog.globalNamed "lockkeeper/push.widths" = some 0 := by kernel_rfl
theorem tL0:(Tryz.prog.globals[0]?).map (·.type)=some 282:=by kernel_rfl
theorem of_laid0 {W:World} (hsh:W.ShapedOpen Tryz.prog) (h:laidMetH Tryz.prog laidL W):(var 0 (Nd.widths.map vI) 282).holds W:=by
  rw [MakeChecks.laidMetH_plain _ _ _ (by kernel_rfl)] at h
  obtain ⟨ps,⟨g0,t0,cs0,f0,p0,q0,hg0,ht0,hv0,hd0,⟨g1,t1,cs1,f1,p1,q1,hg1,ht1,hv1,hd1,_,_⟩,_⟩,_,_⟩:=h
  obtain rfl:=Option.some.inj (gL0.symm.trans hg0)
  obtain rfl:=Option.some.inj (tL0.symm.trans ht0)
  have hc:=Lib.cells_of_tab (zs:=Nd.widths) (k:=.i64) Tryz.underlying282 Tryz.underlying3 (by kernel_rfl) (by kernel_rfl) hd0
  obtain ⟨cs,hh,_⟩:=hsh.1 0 (Array.replicate 9 (.int .i64 0)) 282 (of_decide_eq_true (by kernel_rfl)) (by kernel_rfl)
  obtain ⟨t,p,hh2⟩:=cells_of_var hg0 hv0
  rw [hh] at hh2
  have hcs:cs=cs0:=by
    injection hh2 with h1
    injection h1
  show W.heap[0]?=some (.cells (Nd.widths.map vI).toArray 282 (0,0))
  rw [hh,hcs,←Array.toArray_toList (xs:=cs0),hc]
  rfl
theorem gL1 : Tryz.prog.globalNamed "lockkeeper/reply.names" = some 1 := by kernel_rfl
theorem tL1:(Tryz.prog.globals[1]?).map (·.type)=some 348:=by kernel_rfl
theorem of_laid1 {W:World} (hsh:W.ShapedOpen Tryz.prog) (h:laidMetH Tryz.prog laidL W):(var 1 (Nd.rnames.map vS) 348).holds W:=by
  rw [MakeChecks.laidMetH_plain _ _ _ (by kernel_rfl)] at h
  obtain ⟨ps,⟨g0,t0,cs0,f0,p0,q0,hg0,ht0,hv0,hd0,⟨g1,t1,cs1,f1,p1,q1,hg1,ht1,hv1,hd1,_,_⟩,_⟩,_,_⟩:=h
  obtain rfl:=Option.some.inj (gL1.symm.trans hg1)
  obtain rfl:=Option.some.inj (tL1.symm.trans ht1)
  have hc:=cells_of_strs (zs:=Nd.rnames) Tryz.underlying348 Tryz.underlying9 (by kernel_rfl) (by kernel_rfl) hd1
  obtain ⟨cs,hh,_⟩:=hsh.1 1 (Array.replicate 10 (.string ByteArray.empty)) 348 (of_decide_eq_true (by kernel_rfl)) (by kernel_rfl)
  obtain ⟨t,p,hh2⟩:=cells_of_var hg1 hv1
  rw [hh] at hh2
  have hcs:cs=cs1:=by
    injection hh2 with h1
    injection h1
  show W.heap[1]?=some (.cells (Nd.rnames.map vS).toArray 348 (0,0))
  rw [hh,hcs,←Array.toArray_toList (xs:=cs1),hc]
end Go.Proofs.YtohjlkjhpibkmaaGreatDoor
