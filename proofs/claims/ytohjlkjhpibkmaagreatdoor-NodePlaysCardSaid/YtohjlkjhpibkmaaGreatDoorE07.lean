/-
  Rules and plain laws that the walks use.
-/
import Derived.Test.YtohjlkjhpibkmaaGreatDoorE03
import Derived.Test.YtohjlkjhpibkmaaGreatDoorE06
import Derived.Test.YtohjlkjhpibkmaaGreatDoorRows
import Derived.Test.YtohjlkjhpibkmaaGreatDoorTie
import Derived.Test.YtohjlkjhpibkmaaGreatDoorCards
import Derived.ProofKit
import Derived.LaidLaws
import Derived.Lay
import Derived.LaidMore
import Derived.LaidByTextLater
set_option linter.all false
namespace Go.Proofs.YtohjlkjhpibkmaaGreatDoor
open Go Go.LK Go.ChangeShapes Go.WideShapes Go.ChangeAt Go.RowKit
set_option maxRecDepth 100000
def Tryz.fy:ownKnob Tryz.prog.godebug=none:=by kernel_rfl
def Tryz.W9:laidOutB Tryz.prog=true:=by kernel_rfl
abbrev yF : List (String × DataW Unit) := [("lockkeeper/push.widths", Rows.laid_lockkeeper_push_widths), ("lockkeeper/reply.names", Rows.laid_lockkeeper_reply_names)]
def aiC(os:Os)(args:Array Value):laidMetH Tryz.prog yF ((World.laidAll Tryz.prog os yF).forCall (fun _ _=>0) ⟨#[],args,[]⟩).memory:=by
  rw [MakeChecks.laidMetH_plain _ _ _ aN]
  exact laidMet_laidAll _ aN aN
def TV{o:Program}{aJ:World}{name:String}{L:Nat}{ay:Array Value}(bq:o.globalNamed name=some L)(c:aJ.var? o name=some ay):∃ u n,aJ.heap[L]?=some (.cells ay u n):=by
  unfold World.var? at c
  rw [bq] at c
  simp only [GV] at c
  split at c
  · rename_i i u n d_
    cases c
    exact ⟨u,n,d_⟩
  · cases c
def ajy : Tryz.prog.globalNamed "lockkeeper/push.widths" = some 0 := by kernel_rfl
def av6:(Tryz.prog.globals[0]?).map (·.type)=some 282:=by kernel_rfl
def ara{aJ:World}(yy:aJ.ShapedOpen Tryz.prog)(c:laidMetH Tryz.prog yF aJ):(ai 0 (g.nl.map tj) 282).holds aJ:=by
  rw [MakeChecks.laidMetH_plain _ _ _ aN] at c
  obtain ⟨af,⟨Nn,Bh,MZ,sE,rb,Gb,Oi,jl,gB,VM,⟨b9,dR,M0,me,eC,ep,Fg,lg,hm,wQ,_,_⟩,_⟩,_,_⟩:=c
  obtain rfl:=p8 (ajy.symm.trans Oi)
  obtain rfl:=p8 (av6.symm.trans jl)
  have aS:=Lib.cells_of_tab (zs:=g.nl) (k:=.i64) Tryz.underlying282 Tryz.underlying3 aN aN VM
  obtain ⟨ay,d_,_⟩:=yy.1 0 (Array.replicate 9 (.b 0)) 282 (dp aN) aN
  obtain ⟨u,n,Fj⟩:=TV Oi gB
  rw [d_] at Fj
  have jb:ay=MZ:=by
    injection Fj with G
    injection G
  show aJ.heap[0]?=some (.cells (g.nl.map tj).toArray 282 (0,0))
  rw [d_,jb,←K4 (xs:=MZ),aS]
  rfl
def ajz : Tryz.prog.globalNamed "lockkeeper/reply.names" = some 1 := by kernel_rfl
def av7:(Tryz.prog.globals[1]?).map (·.type)=some 348:=by kernel_rfl
def arb{aJ:World}(yy:aJ.ShapedOpen Tryz.prog)(c:laidMetH Tryz.prog yF aJ):(ai 1 (g.te.map vO) 348).holds aJ:=by
  rw [MakeChecks.laidMetH_plain _ _ _ aN] at c
  obtain ⟨af,⟨Nn,Bh,MZ,sE,rb,Gb,Oi,jl,gB,VM,⟨b9,dR,M0,me,eC,ep,Fg,lg,hm,wQ,_,_⟩,_⟩,_,_⟩:=c
  obtain rfl:=p8 (ajz.symm.trans Fg)
  obtain rfl:=p8 (av7.symm.trans lg)
  have aS:=ahA (iM:=g.te) Tryz.underlying348 Tryz.underlying9 aN aN wQ
  obtain ⟨ay,d_,_⟩:=yy.1 1 (Array.replicate 10 (.string ByteArray.empty)) 348 (dp aN) aN
  obtain ⟨u,n,Fj⟩:=TV Fg hm
  rw [d_] at Fj
  have jb:ay=M0:=by
    injection Fj with G
    injection G
  show aJ.heap[1]?=some (.cells (g.te.map vO).toArray 348 (0,0))
  rw [d_,jb,←K4 (xs:=M0),aS]
end Go.Proofs.YtohjlkjhpibkmaaGreatDoor
