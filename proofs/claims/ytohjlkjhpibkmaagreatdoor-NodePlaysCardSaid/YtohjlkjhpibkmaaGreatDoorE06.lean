/-
  Rules and plain laws that the walks use.
-/
import Derived.Test.YtohjlkjhpibkmaaGreatDoorE05
import Derived.Test.YtohjlkjhpibkmaaGreatDoorE01
import Derived.HandedShaped
set_option linter.all false
namespace Go.LK.g
open Go Go.LK
structure n0 where
  v:Nat
  j:Int
  H:Int
  l:Int
  p:Int
def n0.cells(L:Nat)(n:n0):List Value:=[.pointer (some ⟨L,n.v,none⟩),n.j,n.H,n.l,n.p]
def nL:n0:=⟨0,6,0,0,281474976710655⟩
def nM:n0:=⟨1,1,1,-1,7⟩
def nN:n0:=⟨2,1,0,0,7⟩
def nO:n0:=⟨3,1,0,0,127⟩
def nP:n0:=⟨4,6,0,0,1099511627776⟩
def nQ:n0:=⟨5,2,0,0,65535⟩
def C_{id aE O am a1 bM:Int}:ra id aE O am a1 bM=true↔(0≤id∧id≤281474976710655)∧(-1≤aE∧aE≤7)∧(0≤O∧O≤7)∧(0≤am∧am≤127)∧(0≤a1∧a1≤1099511627776)∧(0≤bM∧bM≤65535)∧¬aE=O:=by
  simp only [ra,hi,h6,decide_eq_true_eq,uN,decide_eq_false_iff_not,and_assoc]
def arj{id aE O am a1 bM:Int}(c:¬((0≤id∧id≤281474976710655)∧(-1≤aE∧aE≤7)∧(0≤O∧O≤7)∧(0≤am∧am≤127)∧(0≤a1∧a1≤1099511627776)∧(0≤bM∧bM≤65535)∧¬aE=O)):ra id aE O am a1 bM=false:=by
  cases a6:ra id aE O am a1 bM
  · rfl
  · exact absurd (C_.1 a6) c
def PA{id aE O code aa aP aR:Int}:mP id aE O code aa aP aR=true↔(1≤code∧code≤10)∧¬aE=O∧(0≤id∧id≤281474976710655)∧(0≤aE∧aE≤7)∧(-1≤O∧O≤7)∧(0≤aa∧aa≤128)∧(0≤aP∧aP≤4294967295)∧(0≤aR∧aR≤7):=by
  simp only [mP,hi,h6,decide_eq_true_eq,uN,decide_eq_false_iff_not,and_assoc]
def o9(s Z4:Int):Bool:=hi Z4 1 6&&!decide (s < 0)&&!decide (0 < Bb .i64 s (8*Z4))
def te:List (List UInt8):=[[103,111,111,100],[114,101,102,117,115,101,100],[101,120,112,105,114,101,100],[115,112,101,110,116],[101,118,105,99,116,101,100],[108,97,116,101],[102,97,105,108,101,100],[99,117,116],[115,116,97,114,118,101,100],[98,114,111,107,101,110]]
def nl:List Int:=[1,4,2,2,1,1,1,1,1]
def Z5:nl.length=9:=rfl
def qw(O:Int)(f:List Int):Bool:=decide (O < 8)&&(f.zip nl).all fun n=>o9 n.1 n.2
def ari{O:Int}{f:List Int}(c:8≤O):qw O f=false:=by
  unfold qw;rw [p4 E];rfl
def arf{O:Int}{f:List Int}{d:Nat}{e j:Int}(Q:f[d]?=some e)(bU:nl[d]?=some j)(c:¬o9 e j=true):qw O f=false:=by
  unfold qw
  have ce:(f.zip nl)[d]?=some (e,j):=by rw [K0];exact ⟨Q,bU⟩
  rw [List.all_eq_false.2 ⟨_,eF ce,c⟩,QK]
def arh{f:List Int}{d:Nat}{e j:Int}(c:((f.zip nl).take d).all (fun n=>o9 n.1 n.2)=true)(Q:f[d]?=some e)(bU:nl[d]?=some j)(bc:o9 e j=true):((f.zip nl).take (d+1)).all (fun n=>o9 n.1 n.2)=true:=by
  have ce:(f.zip nl)[d]?=some (e,j):=by rw [K0];exact ⟨Q,bU⟩
  rw [hx,ce,QN,c]
  simpa using bc
def are{O:Int}{f:List Int}{d:Nat}(bB:O < 8)(c:((f.zip nl).take d).all (fun n=>o9 n.1 n.2)=true)(R:¬d < 9):qw O f=true:=by
  unfold qw
  rw [ir (by rw [List.length_zip,Z5];omega)] at c
  rw [c,c9 bB];rfl
def ai1{l p:Int}(c:¬(if o9 l p=true then (0:Int) else 1)≠0):o9 l p=true:=by
  cases bc:o9 l p
  · rw [bc] at c;exact absurd bd c
  · rfl
def UE{l p:Int}(c:(if o9 l p=true then (0:Int) else 1)≠0):¬o9 l p=true:=fun bc=>by
  rw [bc] at c;exact absurd rfl c
end Go.LK.g
namespace Go.LK
open Go
variable {a:Type} {cB:TypeId×Value→a}
def ao5{l:Assume}{cO:Checked}{os:Os}{z:FuncId}{fn:Func}{H:ChangeSpec}{T_:List PathCond}{zQ zZ VC again:Bool}{bo:World→Array Value→Prop}
    (ld:∀ (j bQ:World) (args:Array Value),j.heap=bQ.heap→bo j args→bo bQ args)
    (fy:ownKnob cO.prog.godebug=none) (Gq:os.Started) (apW:cO.prog.inits.idxOf? z=none) (ve:cO.prog.funcs[z]?=some fn)
    (aw2:∃ (j:World) (tape:Tape) (b:Input),j.os=os∧(j.forCall tape b).Shaped cO.prog∧b.vars=[]∧Input.okWide cO.prog (j.forCall tape b) .any j.heap.size z b ∧
      ((H.pre cB cO.prog fn T_ zQ (j.forCall tape b).memory b.args∧bo (j.forCall tape b).memory b.args)∧sizedMet cB cO.prog fn (OpenSpec.ofChange H) zQ (j.forCall tape b).memory b.args)∧l.holds cO.prog (lone (Frame.enter cO.prog z b.args .normal) [] (j.forCall tape b)))
    (ah5:∀ (aJ:World) (B':Nat) (args:Array Value) (fQ It:List (DataW a)) (kz:List MemPlace),
      (∀ (k:Nat) u m,fn.params[k]?=some u→args[k]?=some m→Value.okWide cO.prog aJ .any B' u m) →
      DataW.Whole cB cO.prog fn.params.toList H.vars zQ aJ args.toList fQ It kz→bo aJ args→aJ.ShapedOpen cO.prog →
      Calls cO.prog z args aJ fun r dY=>∃ m,r=.returned m∧H.post cB cO.prog fn zQ zZ VC again aJ args m dY) :
    ReturnsInHanded l cO os z .any (fun j args=>(H.pre cB cO.prog fn T_ zQ j args∧bo j args)∧sizedMet cB cO.prog fn (OpenSpec.ofChange H) zQ j args) (H.post cB cO.prog fn zQ zZ VC again):=by
  refine returnsInHanded_of_calls fy Gq apW aw2 ?_
  intro j tape b _ yy _ j8 CP aAq
  obtain ⟨_,_,_,ai3,akD,_,_,_,_,CS⟩:=j8
  have r:ai3=fn:=p8 (akD.symm.trans ve)
  subst r
  obtain ⟨⟨⟨fQ,It,kz,bU,aS⟩,Q⟩,ce⟩:=CP
  have ame:=DataW.Whole.of_heap (w':=j.forCall tape b) kf bU
  refine (ah5 (j.forCall tape b) j.heap.size b.args fQ It kz CS ame (ld _ _ _ kf Q) yy).mono fun r dY ⟨m,aC,ad⟩=>?_
  subst aC
  exact ChangeSpec.post_blind ad
end Go.LK
