/-
  Rules and plain laws that the walks use.
-/
import Derived.Test.YtohjlkjhpibkmaaGreatDoorE12
import Derived.Test.YtohjlkjhpibkmaaGreatDoorE15
import Derived.Test.YtohjlkjhpibkmaaGreatDoorE05
import Derived.Test.YtohjlkjhpibkmaaGreatDoorProg
import Derived.KernelRfl
import Derived.Test.YtohjlkjhpibkmaaGreatDoorE03
import Derived.Test.YtohjlkjhpibkmaaGreatDoorE13
import Derived.Test.YtohjlkjhpibkmaaGreatDoorE01
import Derived.Test.YtohjlkjhpibkmaaGreatDoorE14
import Derived.Test.YtohjlkjhpibkmaaGreatDoorE04
set_option linter.all false
namespace Go.LK
open Go Go.RowKit
section
variable {i:cM} {d:List eH} {D:bW} {C:List aB} {ak:Array Oper} {bv:List Oper} {v:Op} {aX:TypeId} {y:Nat} {pos:String} {cT:Array Edge} {e F:Operand} {Y:TypeId} {s:Nat} {bN:Value→List aB→Prop}
def gZ.cn{L:Nat}{b:Nat}{cO:Nat→List Value→TypeId→Prop}(c:gZ L C b cO):gZ L C b cO:=c
def qb.cn{X:Value}{b5:Nat→List (List Value)→Prop}(c:qb X C b5):qb X C b5:=c
def qc.cn{X:Value}{b:Nat}{b5:Nat→TypeId→Nat→List (List Value)→Prop}(c:qc X C b b5):qc X C b b5:=c
def oW.cn{X:Value}{b5:Nat→List (List Value)→Prop}(c:oW X C b5):oW X C b5:=c
def e0.cn{fU:bW→Prop}{v:Oper}(c:e0 i ak fU C (v :: bv) D):e0 i ak fU C (v :: bv) D:=c
def e0.j{fU:bW→Prop}{f:List Oper}(c:∃ v Z,GA f=some (v,Z)∧e0 i ak fU C (v :: Z) D):e0 i ak fU C f D:=by
  exact Si
def e0.an{fU:bW→Prop}{f:List Oper}(c:GA f=none∧fU D):e0 i ak fU C f D:=by
  exact acR
def aj.cn{fU:World→Act→Prop}{v:Oper}(c:aj i ak fU (v :: bv) D C):aj i ak fU (v :: bv) D C:=c
def aj.aBG{fU:World→Act→Prop}(c:aj i ak fU [] D C):aj i ak fU [] D C:=c
def aj.j{fU:World→Act→Prop}{f:List Oper}(c:∃ v Z,GA f=some (v,Z)∧aj i ak fU (v :: Z) D C):aj i ak fU f D C:=by
  exact Si
def aj.an{fU:World→Act→Prop}{f:List Oper}(c:GA f=none∧aj i ak fU [] D C):aj i ak fU f D C:=by
  exact acR
def w.cz(c:Nat.blt y i.s=true∧hz i D C v aX fun m=>w i ak bv d ((y,m) :: D) C):w i ak (⟨some y,v,aX,pos,cT,none⟩ :: bv) d D C:=let ⟨ao,_,c,R⟩:=c;w.A c ao R
def nZ.dC{bN:List aB→Prop}[fY i.o Y s](c:∃ L off aG,aT D e=some (.pointer (some ⟨L,off,none⟩))∧aT D F=some aG∧gZ L C 0 fun b ay u=>∃ ae kA,qS aG=some ae∧ae.length=s∧rf ay off ae=some kA∧(ae.all Value.oneCell')=true∧bN (C.set b (ai L kA u))):nZ i D C (.store Y e F) aX fun _ B=>bN B :=
  let ⟨_,_,_,Q,az,c⟩:=c;let ⟨b,_,_,ac,_,_,aS,aw,W,G,c⟩:=c.u6;⟨_,aq.dC b fY.c Q az ac aS aw G W,fun _ _ r=>r ▸ c⟩
def nZ.iS{aG:Value}[ki i.o Y aG](c:∃ ay,qS aG=some ay∧∀ L,bN (.n L) (ai L ay Y :: C)):nZ i D C (.alloc Y) aX bN :=
  let ⟨_,aS,c⟩:=c;⟨_,aq.iS ki.c aS,by rintro _ _ ⟨L,rfl,rfl⟩;exact c L⟩
def nZ.pF(c:∃ aG ay,aT D e=some aG∧qS aG=some ay∧∀ L,bN (.n L) (ai L ay Y :: C)):nZ i D C (.box Y e) aX bN :=
  let ⟨_,_,Q,aS,c⟩:=c;⟨_,aq.pF Q aS,by rintro _ _ ⟨L,rfl,rfl⟩;exact c L⟩
def tC{L b:Nat}{cO:Nat→List Value→TypeId→Prop}{cz:Prop}(A:cz)(c:nX cz→gZ L C b cO:=by intro Nm;(first|((repeat first|(with_reducible refine gZ.c ?_)|(with_reducible refine gZ.u ?_)|((with_reducible refine gZ.j ?_);refine ⟨_,_,rfl,?_⟩));fail_if_success (with_reducible refine gZ.cn ?_))|(repeat first|refine gZ.c ?_|refine gZ.u ?_));exact Nm.lH):gZ L C b cO:=c (.mk A)
def ry{X:Value}{b5:Nat→List (List Value)→Prop}{cz:Prop}(A:cz)(c:nX cz→qf i C X b5:=by intro Nm;(first|((refine qf.f ?_);(repeat first|(with_reducible refine oW.j ?_)|(with_reducible refine oW.y ?_)|(with_reducible refine oW.u ?_)|((with_reducible refine oW.Gz ?_);refine ⟨_,_,rfl,?_⟩));fail_if_success (with_reducible refine oW.cn ?_))|((refine qf.Z ?_);(repeat first|(with_reducible refine qb.y ?_)|(with_reducible refine qb.u ?_)|((with_reducible refine qb.Gz ?_);refine ⟨_,_,rfl,?_⟩));fail_if_success (with_reducible refine qb.cn ?_))|((refine qf.f ?_);(repeat first|refine oW.j ?_|refine oW.y ?_|refine oW.u ?_);fail_if_success (with_reducible refine oW.cn ?_))|((refine qf.Z ?_);(repeat first|refine qb.y ?_|refine qb.u ?_)));exact Nm.lH):qf i C X b5:=c (.mk A)
def wd{n:Prop}(c:n:=by first|rfl|assumption|exact c9 bO|exact p4 bO|(split<;>first|rfl|contradiction)|(simp [*];done)|fail):n:=c
def SH{n:Prop}(c:n:=by first|omega|(simp only [lK,eh,e6,fq,ol,ib,hw,fc];omega)|fail):n:=c
def lq.aI{ar:aB}(c:lq ar C:=by first|(first|((repeat first|(with_reducible exact lq.c)|(with_reducible refine lq.u ?_)|((with_reducible refine lq.j ?_);refine ⟨_,_,rfl,?_⟩));done)|((repeat first|exact lq.c|refine lq.u ?_);done))|fail):lq ar C:=c
def mA.aI{ar:aB}(c:mA ar C:=by first|(first|((repeat first|(with_reducible exact mA.c)|(with_reducible exact mA.Z)|(with_reducible refine mA.u ?_)|((with_reducible refine mA.j ?_);refine ⟨_,_,rfl,?_⟩));done)|((repeat first|exact mA.c|exact mA.Z|refine mA.u ?_);done))|fail):mA ar C:=c
inductive D1 (p:Bool):Prop
  | mk
def SP{p:Bool}{s:Nat}{o cz:Prop}(l:D1 p)(t:we s)(A:cz)(c:D1 p→we s→nX cz→o:=by
  intro tV ip nD
  repeat with_reducible intro sH
  repeat first
    | ((with_reducible refine K.go ?_);refine ⟨rfl,_,_,_,rfl,?_⟩;first|refine ln.v _ _ _ _ _ ?_|refine ln.i _ _ _ ?_)
    | ((with_reducible refine w.go ?_);refine ⟨rfl,_,_,_,rfl,?_⟩;first|refine ln.v _ _ _ _ _ ?_|refine ln.i _ _ _ ?_)
    | ((fail_if_success (with_reducible refine w.cn ?_));(with_reducible refine w.j ?_);refine ⟨_,_,rfl,?_⟩)
    | ((with_reducible refine K.jQ ?_);refine ⟨_,_,rfl,?_⟩;first|refine ln.v _ _ _ _ _ ?_|refine ln.i _ _ _ ?_)
    | ((with_reducible refine w.jQ ?_);refine ⟨_,rfl,?_⟩)
    | ((with_reducible refine K.adW ?_);refine ⟨_,rfl,?_,?_⟩;(focus (first|rfl|assumption|exact c9 bO|exact p4 bO|(split<;>first|rfl|contradiction))))
    | ((with_reducible refine K.aQ ?_);refine ⟨_,rfl,?_,?_⟩;(focus (first|rfl|assumption|exact c9 bO|exact p4 bO|(split<;>first|rfl|contradiction))))
    | ((with_reducible refine aj.jQ ?_);refine ⟨_,rfl,?_⟩)
    | ((with_reducible refine e0.jQ ?_);refine ⟨_,rfl,?_⟩)
    | ((with_reducible refine aL.jQ ?_);refine ⟨_,rfl,_,rfl,?_⟩)
    | ((fail_if_success (with_reducible refine aj.cn ?_));(fail_if_success (with_reducible refine aj.aBG ?_));(first|((with_reducible refine aj.j ?_);refine ⟨_,_,rfl,?_⟩)|((with_reducible refine aj.an ?_);refine ⟨rfl,?_⟩)))
    | (with_reducible refine aj.qT ?_)
    | (with_reducible refine aj.Cl ?_)
    | ((fail_if_success (with_reducible refine e0.cn ?_));(with_reducible refine e0.j ?_);refine ⟨_,_,rfl,?_⟩)
    | ((fail_if_success (with_reducible refine e0.cn ?_));(with_reducible refine e0.an ?_);refine ⟨rfl,?_⟩)
    | (with_reducible refine e0.new rfl ?_)
    | (with_reducible refine aL.nil ?_)
    | ((fail_if_success (with_reducible refine aL.cn ?_));(fail_if_success (with_reducible refine aL.aBG ?_));(first|((with_reducible refine aL.j ?_);refine ⟨_,_,_,rfl,?_⟩)|((with_reducible refine aL.an ?_);refine ⟨rfl,?_⟩)))
    | (replace ip:=ip.pl;(try ((with_reducible refine w.gt ?_);refine ⟨rfl,?_⟩));(with_reducible refine w.cz ?_);refine ⟨rfl,?_⟩;(first|((with_reducible refine hz.br ?_);refine ⟨_,_,rfl,?_⟩;(refine tC ?_);refine ⟨_,rfl,?_⟩)|((with_reducible refine hz.W8 ?_);refine ⟨_,_,rfl,?_⟩;(refine tC ?_);refine ⟨_,rfl,?_⟩)|((with_reducible refine hz.gb ?_);refine ⟨_,_,rfl,?_⟩;(refine tC ?_);refine ⟨_,rfl,?_⟩)|((with_reducible refine hz.Z0 ?_);refine ⟨_,_,rfl,?_⟩;(refine tC ?_);refine ⟨_,rfl,?_⟩)|((with_reducible refine hz.C5 ?_);refine ⟨_,rfl,?_⟩;(refine ry ?_);refine ⟨_,_,_,rfl,?_⟩)|((with_reducible refine hz.jy ?_);refine ⟨_,_,rfl,rfl,?_⟩;(refine ry ?_);refine ⟨rfl,_,_,_,rfl,?_,?_,?_⟩;(focus omega);(focus (first|omega|exact (dD.1 bO).1)))|((with_reducible refine hz.le ?_);refine ⟨_,_,rfl,?_⟩;(refine ry ?_);refine ⟨_,_,_,rfl,_,_,_,rfl,by assumption,?_⟩;refine ⟨_,rfl,?_⟩)|((with_reducible refine hz.le ?_);refine ⟨_,_,rfl,?_⟩;(refine ry ?_);refine ⟨_,_,_,rfl,_,0,_,rfl,by assumption,?_⟩;refine ⟨_,rfl,?_⟩)|((with_reducible refine hz.lX ?_);refine ⟨_,_,rfl,?_⟩;(refine ry ?_);refine ⟨_,_,_,rfl,_,_,_,rfl,by assumption,?_⟩;refine ⟨_,rfl,?_⟩)|((with_reducible refine hz.lX ?_);refine ⟨_,_,rfl,?_⟩;(refine ry ?_);refine ⟨_,_,_,rfl,_,0,_,rfl,by assumption,?_⟩;refine ⟨_,rfl,?_⟩)|((with_reducible refine hz.o ?_);(first|((with_reducible refine hT.ME ?_);refine ⟨_,rfl,?_⟩;(repeat ((with_reducible refine mV.cons ?_);refine ⟨_,_,rfl,rfl,?_⟩;(first|refine lp.i rfl ?_|refine lp.v bO ?_|refine lp.v (a7.ok _) ?_|refine lp.v (cj.ok _) ?_);refine ⟨_,rfl,rfl,?_⟩));refine mV.nil ?_)|((with_reducible refine hT.mY ?_);refine ⟨_,_,rfl,rfl,?_,?_⟩;(focus omega))|((with_reducible refine hT.xd ?_);refine ⟨_,_,rfl,rfl,?_,?_⟩;(focus omega))|((with_reducible refine hT.Pl ?_);refine ⟨_,_,rfl,rfl,?_,?_⟩;(focus omega))|((with_reducible refine hT.hv ?_);refine ⟨_,_,rfl,rfl,?_,?_,?_⟩;(focus omega);(focus omega))|((with_reducible refine hT.m ?_);refine ⟨_,rfl,?_⟩)|((with_reducible refine hT.qA ?_);refine ⟨_,_,rfl,rfl,?_,?_⟩;(focus (exact wd)))|((with_reducible refine hT.PI ?_);refine ⟨_,_,rfl,rfl,?_,?_⟩;(focus (exact wd)))))))
    | (replace ip:=ip.pl;(first|((with_reducible refine aj.cz ?_);refine ⟨rfl,?_⟩)|((with_reducible refine e0.cz ?_);refine ⟨rfl,?_⟩)|((with_reducible refine aL.cz ?_);refine ⟨_,_,_,_,_,_,rfl,rfl,rfl,?_⟩));(first|(with_reducible refine qd.r5 ?_)|((with_reducible refine qd.aak ?_);refine ⟨_,_,rfl,rfl,rfl,?_,?_⟩;(focus (exact wd))));(first|((with_reducible refine hz.br ?_);refine ⟨_,_,rfl,?_⟩;(refine tC ?_);refine ⟨_,rfl,?_⟩)|((with_reducible refine hz.W8 ?_);refine ⟨_,_,rfl,?_⟩;(refine tC ?_);refine ⟨_,rfl,?_⟩)|((with_reducible refine hz.gb ?_);refine ⟨_,_,rfl,?_⟩;(refine tC ?_);refine ⟨_,rfl,?_⟩)|((with_reducible refine hz.Z0 ?_);refine ⟨_,_,rfl,?_⟩;(refine tC ?_);refine ⟨_,rfl,?_⟩)|((with_reducible refine hz.C5 ?_);refine ⟨_,rfl,?_⟩;(refine ry ?_);refine ⟨_,_,_,rfl,?_⟩)|((with_reducible refine hz.jy ?_);refine ⟨_,_,rfl,rfl,?_⟩;(refine ry ?_);refine ⟨rfl,_,_,_,rfl,?_,?_,?_⟩;(focus omega);(focus (first|omega|exact (dD.1 bO).1)))|((with_reducible refine hz.le ?_);refine ⟨_,_,rfl,?_⟩;(refine ry ?_);refine ⟨_,_,_,rfl,_,_,_,rfl,by assumption,?_⟩;refine ⟨_,rfl,?_⟩)|((with_reducible refine hz.le ?_);refine ⟨_,_,rfl,?_⟩;(refine ry ?_);refine ⟨_,_,_,rfl,_,0,_,rfl,by assumption,?_⟩;refine ⟨_,rfl,?_⟩)|((with_reducible refine hz.lX ?_);refine ⟨_,_,rfl,?_⟩;(refine ry ?_);refine ⟨_,_,_,rfl,_,_,_,rfl,by assumption,?_⟩;refine ⟨_,rfl,?_⟩)|((with_reducible refine hz.lX ?_);refine ⟨_,_,rfl,?_⟩;(refine ry ?_);refine ⟨_,_,_,rfl,_,0,_,rfl,by assumption,?_⟩;refine ⟨_,rfl,?_⟩)|((with_reducible refine hz.o ?_);(first|((with_reducible refine hT.ME ?_);refine ⟨_,rfl,?_⟩;(repeat ((with_reducible refine mV.cons ?_);refine ⟨_,_,rfl,rfl,?_⟩;(first|refine lp.i rfl ?_|refine lp.v bO ?_|refine lp.v (a7.ok _) ?_|refine lp.v (cj.ok _) ?_);refine ⟨_,rfl,rfl,?_⟩));refine mV.nil ?_)|((with_reducible refine hT.mY ?_);refine ⟨_,_,rfl,rfl,?_,?_⟩;(focus omega))|((with_reducible refine hT.xd ?_);refine ⟨_,_,rfl,rfl,?_,?_⟩;(focus omega))|((with_reducible refine hT.Pl ?_);refine ⟨_,_,rfl,rfl,?_,?_⟩;(focus omega))|((with_reducible refine hT.hv ?_);refine ⟨_,_,rfl,rfl,?_,?_,?_⟩;(focus omega);(focus omega))|((with_reducible refine hT.m ?_);refine ⟨_,rfl,?_⟩)|((with_reducible refine hT.qA ?_);refine ⟨_,_,rfl,rfl,?_,?_⟩;(focus (exact wd)))|((with_reducible refine hT.PI ?_);refine ⟨_,_,rfl,rfl,?_,?_⟩;(focus (exact wd)))))))
    | (replace ip:=ip.pl;(first|((with_reducible refine aj.cz ?_);refine ⟨rfl,?_⟩)|((with_reducible refine e0.cz ?_);refine ⟨rfl,?_⟩)|((with_reducible refine aL.cz ?_);refine ⟨_,_,_,_,_,_,rfl,rfl,rfl,?_⟩));(with_reducible refine qd.avc ?_);refine ⟨_,_,rfl,rfl,rfl,?_,?_⟩;(focus (exact wd)))
    | (replace ip:=ip.pl;(with_reducible refine aL.o ?_);refine ⟨_,_,_,_,_,rfl,rfl,?_⟩;(first|((with_reducible refine hT.ME ?_);refine ⟨_,rfl,?_⟩;(repeat ((with_reducible refine mV.cons ?_);refine ⟨_,_,rfl,rfl,?_⟩;(first|refine lp.i rfl ?_|refine lp.v bO ?_|refine lp.v (a7.ok _) ?_|refine lp.v (cj.ok _) ?_);refine ⟨_,rfl,rfl,?_⟩));refine mV.nil ?_)|((with_reducible refine hT.mY ?_);refine ⟨_,_,rfl,rfl,?_,?_⟩;(focus omega))|((with_reducible refine hT.xd ?_);refine ⟨_,_,rfl,rfl,?_,?_⟩;(focus omega))|((with_reducible refine hT.Pl ?_);refine ⟨_,_,rfl,rfl,?_,?_⟩;(focus omega))|((with_reducible refine hT.hv ?_);refine ⟨_,_,rfl,rfl,?_,?_,?_⟩;(focus omega);(focus omega))|((with_reducible refine hT.m ?_);refine ⟨_,rfl,?_⟩)|((with_reducible refine hT.qA ?_);refine ⟨_,_,rfl,rfl,?_,?_⟩;(focus (exact wd)))|((with_reducible refine hT.PI ?_);refine ⟨_,_,rfl,rfl,?_,?_⟩;(focus (exact wd)))))
    | (replace ip:=ip.pl;(try ((with_reducible refine w.gt ?_);refine ⟨rfl,?_⟩));(first|((with_reducible refine w.FJ ?_);refine ⟨rfl,?_⟩)|(with_reducible refine w.FK ?_)|((with_reducible refine aL.FJ ?_);refine ⟨_,_,_,_,_,rfl,rfl,?_⟩)|((with_reducible refine aL.FK ?_);refine ⟨_,_,_,_,rfl,?_⟩));(first|((with_reducible refine nZ.dC ?_);refine ⟨_,_,_,rfl,rfl,?_⟩;(refine tC ?_);refine ⟨_,_,rfl,rfl,rfl,?_,?_⟩;first|rfl|(simp only [k8,ri,jV,a7.ok,cj.ok, *]<;>rfl))|((with_reducible refine nZ.iS ?_);refine ⟨_,rfl,?_⟩;intro sH)|((with_reducible refine nZ.pF ?_);refine ⟨_,_,rfl,rfl,?_⟩;intro sH)|((with_reducible refine nZ.gg ?_);refine ⟨_,_,rfl,rfl,?_⟩;(first|((repeat first|(with_reducible refine qc.c ?_)|(with_reducible refine qc.u ?_)|((with_reducible refine qc.Gz ?_);refine ⟨_,_,rfl,?_⟩));fail_if_success (with_reducible refine qc.cn ?_))|(repeat first|refine qc.c ?_|refine qc.u ?_));refine ⟨rfl,rfl,_,_,_,rfl,by infer_instance,?_⟩;(refine ry ?_);refine ⟨rfl,_,rfl,?_,?_,?_⟩;(focus (exact SH));(focus (exact SH));intro sH)))
    | (replace ip:=ip.pl;(with_reducible refine gr.ar ?_);refine ⟨?_,?_⟩;(focus (decide +kernel)))
    | (replace ip:=ip.pl;(with_reducible refine gr.fO ?_);refine ⟨?_,?_⟩;(focus ((repeat first|exact n1.s|(apply n1.i;focus ((first|((repeat first|(with_reducible exact iQ.c)|(with_reducible apply iQ.u)|((with_reducible apply iQ.j);refine ⟨_,_,rfl,?_⟩));done)|((repeat first|exact iQ.c|apply iQ.u);done)))));done)))
  first|have aiH:D1 false:=tV|have aiH:we 0:=ip|fail
  repeat revert sH
  exact nD.lH):o:=c l t (.mk A)
def qe{o cz:Prop}(A:cz)(c:nX cz→o:=by intro nD;refine SP (D1.mk (p:=false)) (we.mk (s:=999)) ?_;exact nD.lH):o:=c (.mk A)
def aD(s:Nat){o cz:Prop}(A:cz)(c:we s→nX cz→o:=by intro ip nD;refine SP (D1.mk (p:=true)) ip ?_;exact nD.lH):o:=c .mk (.mk A)
def P{Y o cz:Prop}(u:Y)(A:cz)(c:Y→nX cz→o:=by
  intro oh nD
  refine qe ?_
  repeat with_reducible intro yQ
  first
    | ((try ((with_reducible refine w.gt ?_);refine ⟨rfl,?_⟩));(first|((with_reducible refine w.FJ ?_);refine ⟨rfl,?_⟩)|(with_reducible refine w.FK ?_)|((with_reducible refine aL.FJ ?_);refine ⟨_,_,_,_,_,rfl,rfl,?_⟩)|((with_reducible refine aL.FK ?_);refine ⟨_,_,_,_,rfl,?_⟩))
       (with_reducible refine nZ.fl ?_)
       refine ⟨_,rfl,?_⟩
       apply Sq.mk
       case' bA=>first|(with_reducible_and_instances apply oh)|exact oh|refine oh ?_|refine oh ?_ ?_|refine oh ?_ ?_ ?_|refine oh ?_ ?_ ?_ ?_|refine oh ?_ ?_ ?_ ?_ ?_
       case cF=>repeat first|exact sr.s|(apply sr.i;focus (first|((repeat first|(with_reducible exact iQ.c)|(with_reducible apply iQ.u)|((with_reducible apply iQ.j);refine ⟨_,_,rfl,?_⟩));done)|((repeat first|exact iQ.c|apply iQ.u);done)))
       case cs=>repeat first|exact mC.s|(refine mC.Z ?_ ?_;focus (exact lq.aI))|(refine mC.v ?_ ?_;focus (exact mA.aI))|(apply mC.p;(case' av=>first|(apply WX;case c=>assumption)|(apply g.Pr;case c=>assumption));(case bh=>focus (exact lq.aI));(case' bA=>skip))
       try any_goals first|(with_reducible refine su.W3 ?_)|assumption|rfl|omega|(simp only [eh,e6,fq,ol,ib,hw,fc,tm];omega)|(rw [g.Dg];first|assumption|(simp only [*];done))
       case a6=>refine su.mk ?_;(first|rintro _ _ ⟨rfl,rfl⟩|rintro _ _ ⟨yQ,rfl,rfl⟩|skip);(repeat revert yQ);exact nD.lH
       done)
    | (first|((with_reducible refine e0.D0 ?_);refine ⟨rfl,_,rfl,?_⟩)|((with_reducible refine aL.D0 rfl ?_);refine ⟨rfl,_,rfl,?_⟩;(first|(with_reducible refine qd.r5 ?_)|((with_reducible refine qd.aak ?_);refine ⟨_,_,rfl,rfl,rfl,?_,?_⟩;(focus (exact wd)))))
       apply L4.mk
       case' bA=>first|(with_reducible_and_instances apply oh)|exact oh|refine oh ?_|refine oh ?_ ?_|refine oh ?_ ?_ ?_|refine oh ?_ ?_ ?_ ?_|refine oh ?_ ?_ ?_ ?_ ?_
       case ad=>exact fun _ _ c=>c
       case cs=>repeat first|exact mC.s|(refine mC.Z ?_ ?_;focus (exact lq.aI))|(refine mC.v ?_ ?_;focus (exact mA.aI))|(apply mC.p;(case' av=>first|(apply WX;case c=>assumption)|(apply g.Pr;case c=>assumption));(case bh=>focus (exact lq.aI));(case' bA=>skip))
       try any_goals first|(with_reducible refine su.W3 ?_)|assumption|rfl|omega|(simp only [eh,e6,fq,ol,ib,hw,fc,tm];omega)|(rw [g.Dg];first|assumption|(simp only [*];done))
       case a6=>refine su.mk ?_;(repeat revert yQ);exact nD.lH
       done)
    | fail):o:=c u (.mk A)
def aU{o Ef Eg:Prop}(ep:Ef)(fu:Eg)(c:nX Ef→nX Eg→o:=by
  intro Nx Ny
  refine qe ?_
  repeat with_reducible intro tV
  first
    | ((with_reducible refine K.Sr ?_);refine ⟨_,_,rfl,?_,?_⟩)
    | ((with_reducible refine w.Qf ?_);refine ⟨_,_,_,rfl,rfl,?_,?_⟩)
    | ((with_reducible refine aj.Qf ?_);refine ⟨_,_,_,rfl,rfl,?_,?_⟩)
    | fail
  · intro tV
    repeat revert tV
    exact Nx.lH
  · intro tV
    repeat revert tV
    exact Ny.lH):o:=c (.mk ep) (.mk fu)
def aF{o cz:Prop}(A:cz)(c:nX cz→o:=by
  intro nD
  refine qe ?_
  repeat with_reducible intro yQ
  first|(with_reducible refine K.bo ?_)|(with_reducible refine K.afY ?_)|fail
  refine ⟨_,rfl,?_⟩
  repeat
    (with_reducible refine rx.eV ?_)
    first
      | ((with_reducible refine wj.awl ?_);refine ⟨_,rfl,?_⟩)
      | ((with_reducible refine wj.agl ?_);refine ⟨_,_,rfl,?_⟩;(refine tC ?_);refine ⟨_,rfl,?_⟩)
      | ((with_reducible refine wj.on ?_);refine ⟨_,_,rfl,?_⟩;(refine tC ?_);refine ⟨_,rfl,?_⟩)
  (with_reducible refine rx.apU ?_)
  repeat revert yQ
  exact nD.lH):o:=c (.mk A)
def aO{n:List aB→Prop}{B C:List aB}(c:n B)(H:n1 B C:=by repeat first|exact n1.s|(apply n1.i;focus ((first|((repeat first|(with_reducible exact iQ.c)|(with_reducible apply iQ.u)|((with_reducible apply iQ.j);refine ⟨_,_,rfl,?_⟩));done)|((repeat first|exact iQ.c|apply iQ.u);done))))):∃ B,n1 B C∧n B:=⟨_,H,c⟩
def cH{o cz:Prop}(c:nX cz→o:=by intro nD;refine aF ?_;exact nD.lH)(A:cz:=by intros;first|exact aO rfl|exact aO ⟨rfl,rfl⟩|exact aO ⟨_,rfl,rfl⟩):o:=c (.mk A)
end
end Go.LK
namespace Go.Proofs.YtohjlkjhpibkmaaGreatDoor
open Go Go.LK Go.Proofs.Tryz
set_option maxRecDepth 100000
set_option maxHeartbeats 4000000
abbrev xY:=@sizeOf0
abbrev Ez:=@sizeOf1
abbrev wr:=@runUnderlying3
abbrev dt:=@sizeOf3
abbrev ds:=@isAgg3
abbrev iF:=@zeroValue3
abbrev e2:=@underlying3
abbrev u4:=@sizeOf4
abbrev sk:=@isAgg4
abbrev Ml:=@underlying4
abbrev st:=@runUnderlying23
abbrev HN:=@zeroValue25
abbrev Es:=@runUnderlying33
abbrev xT:=@runUnderlying34
abbrev o2:=@sizeOf36
abbrev HP:=@zeroValue51
abbrev BP:=@underlying51
abbrev iR:=@runUnderlying52
abbrev pE:=@sizeOf52
abbrev px:=@underlying52
abbrev xV:=@runUnderlying54
abbrev tN:=@sizeOf56
abbrev HQ:=@zeroValue56
abbrev ws:=@runUnderlying57
abbrev gz:=@runUnderlying60
abbrev tO:=@sizeOf60
abbrev qN:=@underlying60
abbrev B8:=@sizeOf62
abbrev Ey:=@zeroValue62
abbrev gE:=@sizeOf66
abbrev qL:=@isAgg66
abbrev qh:=@zeroValue66
abbrev Ed:=@underlying66
abbrev j3:=@sizeOf68
abbrev zt:=@isAgg68
abbrev j2:=@zeroValue68
abbrev nr:=@runUnderlying71
abbrev tG:=@underlying71
abbrev af1:=@underlying82
abbrev Hu:=@underlying83
abbrev jZ:=@underlying86
abbrev xL:=@underlying87
abbrev zF:=@runUnderlying93
abbrev qP:=@runUnderlying95
abbrev B2:=@zeroValue116
abbrev Hw:=@runUnderlying120
abbrev B4:=@sizeOf120
abbrev wo:=@runUnderlying123
abbrev xZ:=@sizeOf123
abbrev D':=@underlying123
abbrev xQ:=@runUnderlying125
abbrev zL:=@sizeOf136
abbrev BL:=@underlying163
abbrev Ea:=@underlying168
abbrev Hs:=@underlying169
abbrev Ht:=@underlying170
abbrev zC:=@runUnderlying175
abbrev hV:=@sizeOf175
abbrev nU:=@isAgg175
abbrev ns:=@zeroValue175
abbrev uW:=@underlying175
abbrev u2:=@zeroValue178
abbrev jY:=@underlying178
abbrev rt:=@underlying193
abbrev tM:=@sizeOf207
abbrev Eb:=@underlying207
abbrev wq:=@runUnderlying208
abbrev zD:=@runUnderlying212
abbrev u3:=@sizeOf212
abbrev HM:=@zeroValue212
abbrev BM:=@underlying212
abbrev BU:=@runUnderlying213
abbrev Ep:=@runUnderlying215
abbrev zE:=@runUnderlying234
abbrev B5:=@sizeOf234
abbrev BN:=@underlying234
abbrev B6:=@sizeOf236
abbrev zK:=@zeroValue236
abbrev zM:=@sizeOf241
abbrev xW:=@zeroValue241
abbrev Hx:=@runUnderlying282
abbrev Er:=@runUnderlying300
abbrev mW:=@runUnderlying303
abbrev wy:=@sizeOf303
abbrev zs:=@isAgg303
abbrev xX:=@zeroValue303
abbrev xR:=@runUnderlying304
abbrev sj:=@isAgg305
abbrev wz:=@sizeOf320
abbrev Ew:=@zeroValue320
abbrev xS:=@runUnderlying332
abbrev BV:=@runUnderlying336
abbrev n3:=@sizeOf336
abbrev rA:=@zeroValue336
abbrev BO:=@underlying336
abbrev Et:=@runUnderlying345
abbrev Ex:=@zeroValue345
abbrev Ec:=@underlying345
abbrev B7:=@sizeOf354
abbrev BW:=@runUnderlying356
abbrev HO:=@zeroValue356
abbrev xU:=@runUnderlying377
set_option maxRecDepth 100000 in
instance ayi:jh prog:=jh.ofList [(25,0,0),(25,1,1),(25,2,2),(25,3,3),(25,4,4),(36,0,0),(36,1,1),(41,0,0),(41,1,1),(41,2,2),(41,3,3),(41,4,4),(41,5,5),(43,0,0),(43,1,1),(43,2,2),(43,3,3),(43,4,4),(43,5,5),(43,6,6),(45,0,0),(45,1,1),(45,2,2),(45,3,3),(45,4,4),(45,5,5),(45,6,6),(47,0,0),(47,1,1),(47,2,2),(49,0,0),(49,1,1),(49,2,2),(49,3,8),(49,4,15),(51,0,0),(51,1,1),(51,3,3),(51,4,4),(51,5,5),(51,6,6),(56,0,0),(56,1,1),(56,2,2),(56,3,3),(56,4,4),(56,5,5),(56,6,6),(56,7,13),(62,0,0),(62,2,7),(66,0,0),(66,1,1),(66,2,2),(66,3,3),(66,4,4),(66,5,5),(66,6,6),(68,0,0),(68,1,7),(68,2,8),(90,0,0),(90,1,1),(90,2,6),(90,3,7),(90,4,21),(90,5,22),(90,6,23),(90,7,24),(90,8,25),(90,9,26),(90,10,27),(90,11,28),(90,12,29),(90,13,30),(116,0,0),(116,1,1),(118,0,0),(118,1,1),(118,2,2),(120,0,0),(120,1,1),(120,2,8),(120,3,9),(120,4,10),(120,5,12),(120,6,15),(120,7,16),(125,0,0),(125,1,5),(125,2,6),(125,3,20),(125,4,21),(125,5,22),(125,6,23),(125,7,24),(125,8,25),(125,9,42),(125,10,43),(125,11,44),(125,12,45),(136,0,0),(136,1,1),(136,2,2),(136,3,3),(161,0,0),(161,1,1),(161,2,2),(161,3,3),(172,0,0),(172,1,1),(172,2,2),(172,3,3),(172,4,4),(172,5,11),(172,6,12),(172,7,13),(172,8,14),(175,0,0),(175,1,1),(175,2,2),(175,3,3),(180,0,0),(180,1,1),(180,2,2),(180,3,3),(182,0,0),(182,1,1),(184,0,0),(195,0,0),(195,1,1),(206,0,0),(210,0,0),(210,1,1),(212,0,0),(212,1,1),(215,0,0),(215,1,1),(215,2,2),(236,0,0),(236,1,1),(239,0,0),(239,1,1),(239,2,2),(239,3,3),(239,4,4),(239,5,5),(241,0,0),(241,1,1),(241,2,2),(241,3,3),(241,4,4),(261,0,0),(261,1,1),(273,0,0),(273,1,1),(273,2,2),(273,3,3),(292,0,0),(294,0,0),(294,1,1),(294,2,2),(296,0,0),(296,1,1),(296,2,2),(296,3,3),(302,0,0),(302,1,1),(309,0,0),(309,1,1),(311,0,0),(320,0,0),(320,1,1),(336,0,0),(336,3,3),(336,4,4),(345,0,0),(373,0,0),(373,1,1)] (cm.2 ⟨⟨_,_,_,runUnderlying25,rfl,sizeOf3,rfl,rfl⟩,cm.2 ⟨⟨_,_,_,runUnderlying25,rfl,sizeOf3,rfl,rfl⟩,cm.2 ⟨⟨_,_,_,runUnderlying25,rfl,sizeOf3,rfl,rfl⟩,cm.2 ⟨⟨_,_,_,runUnderlying25,rfl,sizeOf22,rfl,rfl⟩,cm.2 ⟨⟨_,_,_,runUnderlying25,rfl,sizeOf23,rfl,rfl⟩,cm.2 ⟨⟨_,_,_,runUnderlying36,rfl,sizeOf33,rfl,rfl⟩,cm.2 ⟨⟨_,_,_,runUnderlying36,rfl,sizeOf34,rfl,rfl⟩,cm.2 ⟨⟨_,_,_,runUnderlying41,rfl,sizeOf3,rfl,rfl⟩,cm.2 ⟨⟨_,_,_,runUnderlying41,rfl,sizeOf3,rfl,rfl⟩,cm.2 ⟨⟨_,_,_,runUnderlying41,rfl,sizeOf3,rfl,rfl⟩,cm.2 ⟨⟨_,_,_,runUnderlying41,rfl,sizeOf3,rfl,rfl⟩,cm.2 ⟨⟨_,_,_,runUnderlying41,rfl,sizeOf3,rfl,rfl⟩,cm.2 ⟨⟨_,_,_,runUnderlying41,rfl,sizeOf3,rfl,rfl⟩,cm.2 ⟨⟨_,_,_,runUnderlying43,rfl,sizeOf3,rfl,rfl⟩,cm.2 ⟨⟨_,_,_,runUnderlying43,rfl,sizeOf3,rfl,rfl⟩,cm.2 ⟨⟨_,_,_,runUnderlying43,rfl,sizeOf3,rfl,rfl⟩,cm.2 ⟨⟨_,_,_,runUnderlying43,rfl,sizeOf3,rfl,rfl⟩,cm.2 ⟨⟨_,_,_,runUnderlying43,rfl,sizeOf3,rfl,rfl⟩,cm.2 ⟨⟨_,_,_,runUnderlying43,rfl,sizeOf3,rfl,rfl⟩,cm.2 ⟨⟨_,_,_,runUnderlying43,rfl,sizeOf3,rfl,rfl⟩,cm.2 ⟨⟨_,_,_,runUnderlying45,rfl,sizeOf3,rfl,rfl⟩,cm.2 ⟨⟨_,_,_,runUnderlying45,rfl,sizeOf3,rfl,rfl⟩,cm.2 ⟨⟨_,_,_,runUnderlying45,rfl,sizeOf3,rfl,rfl⟩,cm.2 ⟨⟨_,_,_,runUnderlying45,rfl,sizeOf3,rfl,rfl⟩,cm.2 ⟨⟨_,_,_,runUnderlying45,rfl,sizeOf3,rfl,rfl⟩,cm.2 ⟨⟨_,_,_,runUnderlying45,rfl,sizeOf3,rfl,rfl⟩,cm.2 ⟨⟨_,_,_,runUnderlying45,rfl,sizeOf3,rfl,rfl⟩,cm.2 ⟨⟨_,_,_,runUnderlying47,rfl,sizeOf3,rfl,rfl⟩,cm.2 ⟨⟨_,_,_,runUnderlying47,rfl,sizeOf3,rfl,rfl⟩,cm.2 ⟨⟨_,_,_,runUnderlying47,rfl,sizeOf45,rfl,rfl⟩,cm.2 ⟨⟨_,_,_,runUnderlying49,rfl,sizeOf3,rfl,rfl⟩,cm.2 ⟨⟨_,_,_,runUnderlying49,rfl,sizeOf3,rfl,rfl⟩,cm.2 ⟨⟨_,_,_,runUnderlying49,rfl,sizeOf41,rfl,rfl⟩,cm.2 ⟨⟨_,_,_,runUnderlying49,rfl,sizeOf43,rfl,rfl⟩,cm.2 ⟨⟨_,_,_,runUnderlying49,rfl,sizeOf47,rfl,rfl⟩,cm.2 ⟨⟨_,_,_,runUnderlying51,rfl,sizeOf3,rfl,rfl⟩,cm.2 ⟨⟨_,_,_,runUnderlying51,rfl,sizeOf3,rfl,rfl⟩,cm.2 ⟨⟨_,_,_,runUnderlying51,rfl,sizeOf3,rfl,rfl⟩,cm.2 ⟨⟨_,_,_,runUnderlying51,rfl,sizeOf3,rfl,rfl⟩,cm.2 ⟨⟨_,_,_,runUnderlying51,rfl,sizeOf3,rfl,rfl⟩,cm.2 ⟨⟨_,_,_,runUnderlying51,rfl,sizeOf3,rfl,rfl⟩,cm.2 ⟨⟨_,_,_,runUnderlying56,rfl,sizeOf3,rfl,rfl⟩,cm.2 ⟨⟨_,_,_,runUnderlying56,rfl,sizeOf3,rfl,rfl⟩,cm.2 ⟨⟨_,_,_,runUnderlying56,rfl,sizeOf3,rfl,rfl⟩,cm.2 ⟨⟨_,_,_,runUnderlying56,rfl,sizeOf3,rfl,rfl⟩,cm.2 ⟨⟨_,_,_,runUnderlying56,rfl,sizeOf3,rfl,rfl⟩,cm.2 ⟨⟨_,_,_,runUnderlying56,rfl,sizeOf3,rfl,rfl⟩,cm.2 ⟨⟨_,_,_,runUnderlying56,rfl,sizeOf45,rfl,rfl⟩,cm.2 ⟨⟨_,_,_,runUnderlying56,rfl,sizeOf54,rfl,rfl⟩,cm.2 ⟨⟨_,_,_,runUnderlying62,rfl,sizeOf3,rfl,rfl⟩,cm.2 ⟨⟨_,_,_,runUnderlying62,rfl,sizeOf43,rfl,rfl⟩,cm.2 ⟨⟨_,_,_,runUnderlying66,rfl,sizeOf3,rfl,rfl⟩,cm.2 ⟨⟨_,_,_,runUnderlying66,rfl,sizeOf3,rfl,rfl⟩,cm.2 ⟨⟨_,_,_,runUnderlying66,rfl,sizeOf3,rfl,rfl⟩,cm.2 ⟨⟨_,_,_,runUnderlying66,rfl,sizeOf3,rfl,rfl⟩,cm.2 ⟨⟨_,_,_,runUnderlying66,rfl,sizeOf3,rfl,rfl⟩,cm.2 ⟨⟨_,_,_,runUnderlying66,rfl,sizeOf3,rfl,rfl⟩,cm.2 ⟨⟨_,_,_,runUnderlying66,rfl,sizeOf3,rfl,rfl⟩,cm.2 ⟨⟨_,_,_,runUnderlying68,rfl,sizeOf66,rfl,rfl⟩,cm.2 ⟨⟨_,_,_,runUnderlying68,rfl,sizeOf3,rfl,rfl⟩,cm.2 ⟨⟨_,_,_,runUnderlying68,rfl,sizeOf60,rfl,rfl⟩,cm.2 ⟨⟨_,_,_,runUnderlying90,rfl,sizeOf82,rfl,rfl⟩,cm.2 ⟨⟨_,_,_,runUnderlying90,rfl,sizeOf25,rfl,rfl⟩,cm.2 ⟨⟨_,_,_,runUnderlying90,rfl,sizeOf3,rfl,rfl⟩,cm.2 ⟨⟨_,_,_,runUnderlying90,rfl,sizeOf56,rfl,rfl⟩,cm.2 ⟨⟨_,_,_,runUnderlying90,rfl,sizeOf3,rfl,rfl⟩,cm.2 ⟨⟨_,_,_,runUnderlying90,rfl,sizeOf3,rfl,rfl⟩,cm.2 ⟨⟨_,_,_,runUnderlying90,rfl,sizeOf3,rfl,rfl⟩,cm.2 ⟨⟨_,_,_,runUnderlying90,rfl,sizeOf3,rfl,rfl⟩,cm.2 ⟨⟨_,_,_,runUnderlying90,rfl,sizeOf83,rfl,rfl⟩,cm.2 ⟨⟨_,_,_,runUnderlying90,rfl,sizeOf84,rfl,rfl⟩,cm.2 ⟨⟨_,_,_,runUnderlying90,rfl,sizeOf85,rfl,rfl⟩,cm.2 ⟨⟨_,_,_,runUnderlying90,rfl,sizeOf86,rfl,rfl⟩,cm.2 ⟨⟨_,_,_,runUnderlying90,rfl,sizeOf87,rfl,rfl⟩,cm.2 ⟨⟨_,_,_,runUnderlying90,rfl,sizeOf88,rfl,rfl⟩,cm.2 ⟨⟨_,_,_,runUnderlying116,rfl,sizeOf3,rfl,rfl⟩,cm.2 ⟨⟨_,_,_,runUnderlying116,rfl,sizeOf3,rfl,rfl⟩,cm.2 ⟨⟨_,_,_,runUnderlying118,rfl,sizeOf3,rfl,rfl⟩,cm.2 ⟨⟨_,_,_,runUnderlying118,rfl,sizeOf3,rfl,rfl⟩,cm.2 ⟨⟨_,_,_,runUnderlying118,rfl,sizeOf3,rfl,rfl⟩,cm.2 ⟨⟨_,_,_,runUnderlying120,rfl,sizeOf3,rfl,rfl⟩,cm.2 ⟨⟨_,_,_,runUnderlying120,rfl,sizeOf45,rfl,rfl⟩,cm.2 ⟨⟨_,_,_,runUnderlying120,rfl,sizeOf60,rfl,rfl⟩,cm.2 ⟨⟨_,_,_,runUnderlying120,rfl,sizeOf60,rfl,rfl⟩,cm.2 ⟨⟨_,_,_,runUnderlying120,rfl,sizeOf116,rfl,rfl⟩,cm.2 ⟨⟨_,_,_,runUnderlying120,rfl,sizeOf118,rfl,rfl⟩,cm.2 ⟨⟨_,_,_,runUnderlying120,rfl,sizeOf3,rfl,rfl⟩,cm.2 ⟨⟨_,_,_,runUnderlying120,rfl,sizeOf3,rfl,rfl⟩,cm.2 ⟨⟨_,_,_,runUnderlying125,rfl,sizeOf25,rfl,rfl⟩,cm.2 ⟨⟨_,_,_,runUnderlying125,rfl,sizeOf3,rfl,rfl⟩,cm.2 ⟨⟨_,_,_,runUnderlying125,rfl,sizeOf56,rfl,rfl⟩,cm.2 ⟨⟨_,_,_,runUnderlying125,rfl,sizeOf3,rfl,rfl⟩,cm.2 ⟨⟨_,_,_,runUnderlying125,rfl,sizeOf3,rfl,rfl⟩,cm.2 ⟨⟨_,_,_,runUnderlying125,rfl,sizeOf3,rfl,rfl⟩,cm.2 ⟨⟨_,_,_,runUnderlying125,rfl,sizeOf3,rfl,rfl⟩,cm.2 ⟨⟨_,_,_,runUnderlying125,rfl,sizeOf60,rfl,rfl⟩,cm.2 ⟨⟨_,_,_,runUnderlying125,rfl,sizeOf120,rfl,rfl⟩,cm.2 ⟨⟨_,_,_,runUnderlying125,rfl,sizeOf52,rfl,rfl⟩,cm.2 ⟨⟨_,_,_,runUnderlying125,rfl,sizeOf57,rfl,rfl⟩,cm.2 ⟨⟨_,_,_,runUnderlying125,rfl,sizeOf123,rfl,rfl⟩,cm.2 ⟨⟨_,_,_,runUnderlying125,rfl,sizeOf71,rfl,rfl⟩,cm.2 ⟨⟨_,_,_,runUnderlying136,rfl,sizeOf3,rfl,rfl⟩,cm.2 ⟨⟨_,_,_,runUnderlying136,rfl,sizeOf3,rfl,rfl⟩,cm.2 ⟨⟨_,_,_,runUnderlying136,rfl,sizeOf3,rfl,rfl⟩,cm.2 ⟨⟨_,_,_,runUnderlying136,rfl,sizeOf3,rfl,rfl⟩,cm.2 ⟨⟨_,_,_,runUnderlying161,rfl,sizeOf3,rfl,rfl⟩,cm.2 ⟨⟨_,_,_,runUnderlying161,rfl,sizeOf3,rfl,rfl⟩,cm.2 ⟨⟨_,_,_,runUnderlying161,rfl,sizeOf3,rfl,rfl⟩,cm.2 ⟨⟨_,_,_,runUnderlying161,rfl,sizeOf3,rfl,rfl⟩,cm.2 ⟨⟨_,_,_,runUnderlying172,rfl,sizeOf167,rfl,rfl⟩,cm.2 ⟨⟨_,_,_,runUnderlying172,rfl,sizeOf168,rfl,rfl⟩,cm.2 ⟨⟨_,_,_,runUnderlying172,rfl,sizeOf3,rfl,rfl⟩,cm.2 ⟨⟨_,_,_,runUnderlying172,rfl,sizeOf3,rfl,rfl⟩,cm.2 ⟨⟨_,_,_,runUnderlying172,rfl,sizeOf45,rfl,rfl⟩,cm.2 ⟨⟨_,_,_,runUnderlying172,rfl,sizeOf169,rfl,rfl⟩,cm.2 ⟨⟨_,_,_,runUnderlying172,rfl,sizeOf170,rfl,rfl⟩,cm.2 ⟨⟨_,_,_,runUnderlying172,rfl,sizeOf3,rfl,rfl⟩,cm.2 ⟨⟨_,_,_,runUnderlying172,rfl,sizeOf3,rfl,rfl⟩,cm.2 ⟨⟨_,_,_,runUnderlying175,rfl,sizeOf3,rfl,rfl⟩,cm.2 ⟨⟨_,_,_,runUnderlying175,rfl,sizeOf3,rfl,rfl⟩,cm.2 ⟨⟨_,_,_,runUnderlying175,rfl,sizeOf3,rfl,rfl⟩,cm.2 ⟨⟨_,_,_,runUnderlying175,rfl,sizeOf3,rfl,rfl⟩,cm.2 ⟨⟨_,_,_,runUnderlying180,rfl,sizeOf60,rfl,rfl⟩,cm.2 ⟨⟨_,_,_,runUnderlying180,rfl,sizeOf3,rfl,rfl⟩,cm.2 ⟨⟨_,_,_,runUnderlying180,rfl,sizeOf3,rfl,rfl⟩,cm.2 ⟨⟨_,_,_,runUnderlying180,rfl,sizeOf178,rfl,rfl⟩,cm.2 ⟨⟨_,_,_,runUnderlying182,rfl,sizeOf3,rfl,rfl⟩,cm.2 ⟨⟨_,_,_,runUnderlying182,rfl,sizeOf3,rfl,rfl⟩,cm.2 ⟨⟨_,_,_,runUnderlying184,rfl,sizeOf182,rfl,rfl⟩,cm.2 ⟨⟨_,_,_,runUnderlying195,rfl,sizeOf178,rfl,rfl⟩,cm.2 ⟨⟨_,_,_,runUnderlying195,rfl,sizeOf193,rfl,rfl⟩,cm.2 ⟨⟨_,_,_,runUnderlying206,rfl,sizeOf163,rfl,rfl⟩,cm.2 ⟨⟨_,_,_,runUnderlying210,rfl,sizeOf3,rfl,rfl⟩,cm.2 ⟨⟨_,_,_,runUnderlying210,rfl,sizeOf208,rfl,rfl⟩,cm.2 ⟨⟨_,_,_,runUnderlying212,rfl,sizeOf4,rfl,rfl⟩,cm.2 ⟨⟨_,_,_,runUnderlying212,rfl,sizeOf175,rfl,rfl⟩,cm.2 ⟨⟨_,_,_,runUnderlying215,rfl,sizeOf4,rfl,rfl⟩,cm.2 ⟨⟨_,_,_,runUnderlying215,rfl,sizeOf3,rfl,rfl⟩,cm.2 ⟨⟨_,_,_,runUnderlying215,rfl,sizeOf213,rfl,rfl⟩,cm.2 ⟨⟨_,_,_,runUnderlying236,rfl,sizeOf3,rfl,rfl⟩,cm.2 ⟨⟨_,_,_,runUnderlying236,rfl,sizeOf234,rfl,rfl⟩,cm.2 ⟨⟨_,_,_,runUnderlying239,rfl,sizeOf3,rfl,rfl⟩,cm.2 ⟨⟨_,_,_,runUnderlying239,rfl,sizeOf3,rfl,rfl⟩,cm.2 ⟨⟨_,_,_,runUnderlying239,rfl,sizeOf3,rfl,rfl⟩,cm.2 ⟨⟨_,_,_,runUnderlying239,rfl,sizeOf3,rfl,rfl⟩,cm.2 ⟨⟨_,_,_,runUnderlying239,rfl,sizeOf3,rfl,rfl⟩,cm.2 ⟨⟨_,_,_,runUnderlying239,rfl,sizeOf71,rfl,rfl⟩,cm.2 ⟨⟨_,_,_,runUnderlying241,rfl,sizeOf3,rfl,rfl⟩,cm.2 ⟨⟨_,_,_,runUnderlying241,rfl,sizeOf3,rfl,rfl⟩,cm.2 ⟨⟨_,_,_,runUnderlying241,rfl,sizeOf3,rfl,rfl⟩,cm.2 ⟨⟨_,_,_,runUnderlying241,rfl,sizeOf3,rfl,rfl⟩,cm.2 ⟨⟨_,_,_,runUnderlying241,rfl,sizeOf4,rfl,rfl⟩,cm.2 ⟨⟨_,_,_,runUnderlying261,rfl,sizeOf29,rfl,rfl⟩,cm.2 ⟨⟨_,_,_,runUnderlying261,rfl,sizeOf36,rfl,rfl⟩,cm.2 ⟨⟨_,_,_,runUnderlying273,rfl,sizeOf3,rfl,rfl⟩,cm.2 ⟨⟨_,_,_,runUnderlying273,rfl,sizeOf3,rfl,rfl⟩,cm.2 ⟨⟨_,_,_,runUnderlying273,rfl,sizeOf3,rfl,rfl⟩,cm.2 ⟨⟨_,_,_,runUnderlying273,rfl,sizeOf3,rfl,rfl⟩,cm.2 ⟨⟨_,_,_,runUnderlying292,rfl,sizeOf178,rfl,rfl⟩,cm.2 ⟨⟨_,_,_,runUnderlying294,rfl,sizeOf292,rfl,rfl⟩,cm.2 ⟨⟨_,_,_,runUnderlying294,rfl,sizeOf3,rfl,rfl⟩,cm.2 ⟨⟨_,_,_,runUnderlying294,rfl,sizeOf52,rfl,rfl⟩,cm.2 ⟨⟨_,_,_,runUnderlying296,rfl,sizeOf4,rfl,rfl⟩,cm.2 ⟨⟨_,_,_,runUnderlying296,rfl,sizeOf3,rfl,rfl⟩,cm.2 ⟨⟨_,_,_,runUnderlying296,rfl,sizeOf3,rfl,rfl⟩,cm.2 ⟨⟨_,_,_,runUnderlying296,rfl,sizeOf3,rfl,rfl⟩,cm.2 ⟨⟨_,_,_,runUnderlying302,rfl,sizeOf3,rfl,rfl⟩,cm.2 ⟨⟨_,_,_,runUnderlying302,rfl,sizeOf300,rfl,rfl⟩,cm.2 ⟨⟨_,_,_,runUnderlying309,rfl,sizeOf3,rfl,rfl⟩,cm.2 ⟨⟨_,_,_,runUnderlying309,rfl,sizeOf3,rfl,rfl⟩,cm.2 ⟨⟨_,_,_,runUnderlying311,rfl,sizeOf95,rfl,rfl⟩,cm.2 ⟨⟨_,_,_,runUnderlying320,rfl,sizeOf3,rfl,rfl⟩,cm.2 ⟨⟨_,_,_,runUnderlying320,rfl,sizeOf3,rfl,rfl⟩,cm.2 ⟨⟨_,_,_,runUnderlying336,rfl,sizeOf305,rfl,rfl⟩,cm.2 ⟨⟨_,_,_,runUnderlying336,rfl,sizeOf3,rfl,rfl⟩,cm.2 ⟨⟨_,_,_,runUnderlying336,rfl,sizeOf3,rfl,rfl⟩,cm.2 ⟨⟨_,_,_,runUnderlying345,rfl,sizeOf68,rfl,rfl⟩,cm.2 ⟨⟨_,_,_,runUnderlying373,rfl,sizeOf3,rfl,rfl⟩,cm.2 ⟨⟨_,_,_,runUnderlying373,rfl,sizeOf28,rfl,rfl⟩,List.forall_mem_nil _⟩⟩⟩⟩⟩⟩⟩⟩⟩⟩⟩⟩⟩⟩⟩⟩⟩⟩⟩⟩⟩⟩⟩⟩⟩⟩⟩⟩⟩⟩⟩⟩⟩⟩⟩⟩⟩⟩⟩⟩⟩⟩⟩⟩⟩⟩⟩⟩⟩⟩⟩⟩⟩⟩⟩⟩⟩⟩⟩⟩⟩⟩⟩⟩⟩⟩⟩⟩⟩⟩⟩⟩⟩⟩⟩⟩⟩⟩⟩⟩⟩⟩⟩⟩⟩⟩⟩⟩⟩⟩⟩⟩⟩⟩⟩⟩⟩⟩⟩⟩⟩⟩⟩⟩⟩⟩⟩⟩⟩⟩⟩⟩⟩⟩⟩⟩⟩⟩⟩⟩⟩⟩⟩⟩⟩⟩⟩⟩⟩⟩⟩⟩⟩⟩⟩⟩⟩⟩⟩⟩⟩⟩⟩⟩⟩⟩⟩⟩⟩⟩⟩⟩⟩⟩⟩⟩⟩⟩⟩⟩⟩⟩⟩⟩⟩⟩⟩⟩⟩⟩⟩⟩⟩⟩⟩⟩⟩⟩⟩)
end Go.Proofs.YtohjlkjhpibkmaaGreatDoor
namespace Go.Proofs.YtohjlkjhpibkmaaGreatDoor
open Go Go.LK
set_option linter.unusedSimpArgs false
def Tryz.bE:Tryz.prog.follows .mixedOrders=true:=by kernel_rfl
def nE:Tryz.prog.info? 3=some Tryz.t3∧Tryz.t3.zero=some (.b 0)∧Tryz.t3.size=1∧Tryz.t3.bytes=8:=⟨by kernel_rfl,by kernel_rfl,by kernel_rfl,by kernel_rfl⟩
def WE:Tryz.prog.info? 4=some Tryz.t4∧Tryz.t4.zero=some (.bool false)∧Tryz.t4.size=1∧Tryz.t4.bytes=1:=⟨by kernel_rfl,by kernel_rfl,by kernel_rfl,by kernel_rfl⟩
def I7:Tryz.prog.info? 5=some Tryz.t5∧Tryz.t5.zero=some (.int .u8 0)∧Tryz.t5.size=1∧Tryz.t5.bytes=1:=⟨by kernel_rfl,by kernel_rfl,by kernel_rfl,by kernel_rfl⟩
def I8:Tryz.prog.info? 51=some Tryz.t51∧Tryz.t51.zero=some (.agg #[.b 0,.b 0,.b 0,.b 0,.b 0,.b 0,.b 0])∧Tryz.t51.size=7∧Tryz.t51.bytes=56:=⟨by kernel_rfl,by kernel_rfl,by kernel_rfl,by kernel_rfl⟩
def I9:Tryz.prog.info? 56=some Tryz.t56∧Tryz.t56.zero=some (.agg #[.b 0,.b 0,.b 0,.b 0,.b 0,.b 0,.b 0,.b 0,.b 0,.b 0,.b 0,.b 0,.b 0,Value.slice none 0 0])∧Tryz.t56.size=14∧Tryz.t56.bytes=128:=⟨by kernel_rfl,by kernel_rfl,by kernel_rfl,by kernel_rfl⟩
def CX:Tryz.prog.info? 62=some Tryz.t62∧Tryz.t62.zero=some (.agg #[.b 0,.b 0,.b 0,.b 0,.b 0,.b 0,.b 0,.b 0,.b 0,.b 0,.b 0,.b 0,.b 0,.b 0,.b 0,.b 0,.b 0,.b 0,.b 0,.b 0,.b 0,.b 0,.b 0])∧Tryz.t62.size=23∧Tryz.t62.bytes=184:=⟨by kernel_rfl,by kernel_rfl,by kernel_rfl,by kernel_rfl⟩
def oc:Tryz.prog.info? 66=some Tryz.t66∧Tryz.t66.zero=some (.agg #[.b 0,.b 0,.b 0,.b 0,.b 0,.b 0,.b 0])∧Tryz.t66.size=7∧Tryz.t66.bytes=56:=⟨by kernel_rfl,by kernel_rfl,by kernel_rfl,by kernel_rfl⟩
def wY:Tryz.prog.info? 68=some Tryz.t68∧Tryz.t68.zero=some (.agg #[.b 0,.b 0,.b 0,.b 0,.b 0,.b 0,.b 0,.b 0,Value.slice none 0 0])∧Tryz.t68.size=9∧Tryz.t68.bytes=88:=⟨by kernel_rfl,by kernel_rfl,by kernel_rfl,by kernel_rfl⟩
def CV:Tryz.prog.info? 136=some Tryz.t136∧Tryz.t136.zero=some (.agg #[.b 0,.b 0,.b 0,.b 0])∧Tryz.t136.size=4∧Tryz.t136.bytes=32:=⟨by kernel_rfl,by kernel_rfl,by kernel_rfl,by kernel_rfl⟩
def q8:Tryz.prog.info? 175=some Tryz.t175∧Tryz.t175.zero=some (.agg #[.b 0,.b 0,.b 0,.b 0])∧Tryz.t175.size=4∧Tryz.t175.bytes=32:=⟨by kernel_rfl,by kernel_rfl,by kernel_rfl,by kernel_rfl⟩
def CW:Tryz.prog.info? 241=some Tryz.t241∧Tryz.t241.zero=some (.agg #[.b 0,.b 0,.b 0,.b 0,.bool false])∧Tryz.t241.size=5∧Tryz.t241.bytes=40:=⟨by kernel_rfl,by kernel_rfl,by kernel_rfl,by kernel_rfl⟩
def yB:Tryz.prog.info? 320=some Tryz.t320∧Tryz.t320.zero=some (.agg #[.b 0,.b 0])∧Tryz.t320.size=2∧Tryz.t320.bytes=16:=⟨by kernel_rfl,by kernel_rfl,by kernel_rfl,by kernel_rfl⟩
def ash{aH:Array Field}(c:Tryz.prog.underlying 25=some (.struct aH)):∀ j,(aH.mapM (m:=Sem) fun z=>Functor.map (Prod.mk z.offset) (sizeOf z.type)).run Tryz.prog j=.ok #[(0,1),(1,1),(2,1),(3,1),(4,1)] j:=by
  rw [Tryz.underlying25] at c
  cases c
  intro j
  simp [Tryz.sizeOf22,Tryz.sizeOf23,Tryz.sizeOf3]
def X3{aH:Array Field}(c:Tryz.prog.underlying 36=some (.struct aH)):∀ j,(aH.mapM (m:=Sem) fun z=>Functor.map (Prod.mk z.offset) (sizeOf z.type)).run Tryz.prog j=.ok #[(0,1),(1,1)] j:=by
  rw [Tryz.underlying36] at c
  cases c
  intro j
  simp [Tryz.sizeOf33,Tryz.sizeOf34]
def ast{aH:Array Field}(c:Tryz.prog.underlying 41=some (.struct aH)):∀ j,(aH.mapM (m:=Sem) fun z=>Functor.map (Prod.mk z.offset) (sizeOf z.type)).run Tryz.prog j=.ok #[(0,1),(1,1),(2,1),(3,1),(4,1),(5,1)] j:=by
  rw [Tryz.underlying41] at c
  exact si
def asu{aH:Array Field}(c:Tryz.prog.underlying 43=some (.struct aH)):∀ j,(aH.mapM (m:=Sem) fun z=>Functor.map (Prod.mk z.offset) (sizeOf z.type)).run Tryz.prog j=.ok #[(0,1),(1,1),(2,1),(3,1),(4,1),(5,1),(6,1)] j:=by
  rw [Tryz.underlying43] at c
  exact si
def asv{aH:Array Field}(c:Tryz.prog.underlying 45=some (.struct aH)):∀ j,(aH.mapM (m:=Sem) fun z=>Functor.map (Prod.mk z.offset) (sizeOf z.type)).run Tryz.prog j=.ok #[(0,1),(1,1),(2,1),(3,1),(4,1),(5,1),(6,1)] j:=by
  rw [Tryz.underlying45] at c
  exact si
def X4{aH:Array Field}(c:Tryz.prog.underlying 51=some (.struct aH)):∀ j,(aH.mapM (m:=Sem) fun z=>Functor.map (Prod.mk z.offset) (sizeOf z.type)).run Tryz.prog j=.ok #[(0,1),(1,1),(2,1),(3,1),(4,1),(5,1),(6,1)] j:=by
  rw [Tryz.underlying51] at c
  exact si
def asw{aH:Array Field}(c:Tryz.prog.underlying 56=some (.struct aH)):∀ j,(aH.mapM (m:=Sem) fun z=>Functor.map (Prod.mk z.offset) (sizeOf z.type)).run Tryz.prog j=.ok #[(0,1),(1,1),(2,1),(3,1),(4,1),(5,1),(6,7),(13,1)] j:=by
  rw [Tryz.underlying56] at c
  cases c
  intro j
  simp [Tryz.sizeOf3,Tryz.sizeOf45,Tryz.sizeOf54]
def asx{aH:Array Field}(c:Tryz.prog.underlying 62=some (.struct aH)):∀ j,(aH.mapM (m:=Sem) fun z=>Functor.map (Prod.mk z.offset) (sizeOf z.type)).run Tryz.prog j=.ok #[(0,1),(1,6),(7,7),(14,9)] j:=by
  rw [Tryz.underlying62] at c
  cases c
  intro j
  simp [Tryz.sizeOf3,Tryz.sizeOf41,Tryz.sizeOf43,Tryz.sizeOf47]
def asy{aH:Array Field}(c:Tryz.prog.underlying 66=some (.struct aH)):∀ j,(aH.mapM (m:=Sem) fun z=>Functor.map (Prod.mk z.offset) (sizeOf z.type)).run Tryz.prog j=.ok #[(0,1),(1,1),(2,1),(3,1),(4,1),(5,1),(6,1)] j:=by
  rw [Tryz.underlying66] at c
  exact si
def X5{aH:Array Field}(c:Tryz.prog.underlying 68=some (.struct aH)):∀ j,(aH.mapM (m:=Sem) fun z=>Functor.map (Prod.mk z.offset) (sizeOf z.type)).run Tryz.prog j=.ok #[(0,7),(7,1),(8,1)] j:=by
  rw [Tryz.underlying68] at c
  cases c
  intro j
  simp [Tryz.sizeOf3,Tryz.sizeOf60,Tryz.sizeOf66]
def asz{aH:Array Field}(c:Tryz.prog.underlying 90=some (.struct aH)):∀ j,(aH.mapM (m:=Sem) fun z=>Functor.map (Prod.mk z.offset) (sizeOf z.type)).run Tryz.prog j=.ok #[(0,1),(1,5),(6,1),(7,14),(21,1),(22,1),(23,1),(24,1),(25,1),(26,1),(27,1),(28,1),(29,1),(30,1)] j:=by
  rw [Tryz.underlying90] at c
  cases c
  intro j
  simp [Tryz.sizeOf25,Tryz.sizeOf3,Tryz.sizeOf56,Tryz.sizeOf82,Tryz.sizeOf83,Tryz.sizeOf84,Tryz.sizeOf85,Tryz.sizeOf86,Tryz.sizeOf87,Tryz.sizeOf88]
def ar3{aH:Array Field}(c:Tryz.prog.underlying 116=some (.struct aH)):∀ j,(aH.mapM (m:=Sem) fun z=>Functor.map (Prod.mk z.offset) (sizeOf z.type)).run Tryz.prog j=.ok #[(0,1),(1,1)] j:=by
  rw [Tryz.underlying116] at c
  exact si
def ar4{aH:Array Field}(c:Tryz.prog.underlying 118=some (.struct aH)):∀ j,(aH.mapM (m:=Sem) fun z=>Functor.map (Prod.mk z.offset) (sizeOf z.type)).run Tryz.prog j=.ok #[(0,1),(1,1),(2,1)] j:=by
  rw [Tryz.underlying118] at c
  exact si
def ar5{aH:Array Field}(c:Tryz.prog.underlying 120=some (.struct aH)):∀ j,(aH.mapM (m:=Sem) fun z=>Functor.map (Prod.mk z.offset) (sizeOf z.type)).run Tryz.prog j=.ok #[(0,1),(1,7),(8,1),(9,1),(10,2),(12,3),(15,1),(16,1)] j:=by
  rw [Tryz.underlying120] at c
  cases c
  intro j
  simp [Tryz.sizeOf116,Tryz.sizeOf118,Tryz.sizeOf3,Tryz.sizeOf45,Tryz.sizeOf60]
def X1{aH:Array Field}(c:Tryz.prog.underlying 125=some (.struct aH)):∀ j,(aH.mapM (m:=Sem) fun z=>Functor.map (Prod.mk z.offset) (sizeOf z.type)).run Tryz.prog j=.ok #[(0,5),(5,1),(6,14),(20,1),(21,1),(22,1),(23,1),(24,1),(25,17),(42,1),(43,1),(44,1),(45,1)] j:=by
  rw [Tryz.underlying125] at c
  cases c
  intro j
  simp [Tryz.sizeOf120,Tryz.sizeOf123,Tryz.sizeOf25,Tryz.sizeOf3,Tryz.sizeOf52,Tryz.sizeOf56,Tryz.sizeOf57,Tryz.sizeOf60,Tryz.sizeOf71]
def ar6{aH:Array Field}(c:Tryz.prog.underlying 136=some (.struct aH)):∀ j,(aH.mapM (m:=Sem) fun z=>Functor.map (Prod.mk z.offset) (sizeOf z.type)).run Tryz.prog j=.ok #[(0,1),(1,1),(2,1),(3,1)] j:=by
  rw [Tryz.underlying136] at c
  exact si
def ar7{aH:Array Field}(c:Tryz.prog.underlying 161=some (.struct aH)):∀ j,(aH.mapM (m:=Sem) fun z=>Functor.map (Prod.mk z.offset) (sizeOf z.type)).run Tryz.prog j=.ok #[(0,1),(1,1),(2,1),(3,1),(4,1),(5,1)] j:=by
  rw [Tryz.underlying161] at c
  exact RN
def ar8{aH:Array Field}(c:Tryz.prog.underlying 172=some (.struct aH)):∀ j,(aH.mapM (m:=Sem) fun z=>Functor.map (Prod.mk z.offset) (sizeOf z.type)).run Tryz.prog j=.ok #[(0,1),(1,1),(2,1),(3,1),(4,7),(11,1),(12,1),(13,1),(14,1)] j:=by
  rw [Tryz.underlying172] at c
  cases c
  intro j
  simp [Tryz.sizeOf167,Tryz.sizeOf168,Tryz.sizeOf169,Tryz.sizeOf170,Tryz.sizeOf3,Tryz.sizeOf45]
def Dc{aH:Array Field}(c:Tryz.prog.underlying 175=some (.struct aH)):∀ j,(aH.mapM (m:=Sem) fun z=>Functor.map (Prod.mk z.offset) (sizeOf z.type)).run Tryz.prog j=.ok #[(0,1),(1,1),(2,1),(3,1)] j:=by
  rw [Tryz.underlying175] at c
  exact si
def ar9{aH:Array Field}(c:Tryz.prog.underlying 180=some (.struct aH)):∀ j,(aH.mapM (m:=Sem) fun z=>Functor.map (Prod.mk z.offset) (sizeOf z.type)).run Tryz.prog j=.ok #[(0,1),(1,1),(2,1),(3,1)] j:=by
  rw [Tryz.underlying180] at c
  cases c
  intro j
  simp [Tryz.sizeOf178,Tryz.sizeOf3,Tryz.sizeOf60]
def ar_{aH:Array Field}(c:Tryz.prog.underlying 182=some (.struct aH)):∀ j,(aH.mapM (m:=Sem) fun z=>Functor.map (Prod.mk z.offset) (sizeOf z.type)).run Tryz.prog j=.ok #[(0,1),(1,1)] j:=by
  rw [Tryz.underlying182] at c
  exact si
def ar'{aH:Array Field}(c:Tryz.prog.underlying 184=some (.struct aH)):∀ j,(aH.mapM (m:=Sem) fun z=>Functor.map (Prod.mk z.offset) (sizeOf z.type)).run Tryz.prog j=.ok #[(0,2)] j:=by
  rw [Tryz.underlying184] at c
  cases c
  intro j
  simp [Tryz.sizeOf182]
def asa{aH:Array Field}(c:Tryz.prog.underlying 188=some (.struct aH)):∀ j,(aH.mapM (m:=Sem) fun z=>Functor.map (Prod.mk z.offset) (sizeOf z.type)).run Tryz.prog j=.ok #[(0,1),(1,1),(2,1)] j:=by
  rw [Tryz.underlying188] at c
  cases c
  intro j
  simp [Tryz.sizeOf22,Tryz.sizeOf3]
def asb{aH:Array Field}(c:Tryz.prog.underlying 195=some (.struct aH)):∀ j,(aH.mapM (m:=Sem) fun z=>Functor.map (Prod.mk z.offset) (sizeOf z.type)).run Tryz.prog j=.ok #[(0,1),(1,1)] j:=by
  rw [Tryz.underlying195] at c
  cases c
  intro j
  simp [Tryz.sizeOf178,Tryz.sizeOf193]
def asc{aH:Array Field}(c:Tryz.prog.underlying 206=some (.struct aH)):∀ j,(aH.mapM (m:=Sem) fun z=>Functor.map (Prod.mk z.offset) (sizeOf z.type)).run Tryz.prog j=.ok #[(0,1),(1,1)] j:=by
  rw [Tryz.underlying206] at c
  cases c
  intro j
  simp [Tryz.sizeOf163,Tryz.sizeOf3]
def asd{aH:Array Field}(c:Tryz.prog.underlying 210=some (.struct aH)):∀ j,(aH.mapM (m:=Sem) fun z=>Functor.map (Prod.mk z.offset) (sizeOf z.type)).run Tryz.prog j=.ok #[(0,1),(1,16)] j:=by
  rw [Tryz.underlying210] at c
  cases c
  intro j
  simp [Tryz.sizeOf208,Tryz.sizeOf3]
def JY{aH:Array Field}(c:Tryz.prog.underlying 212=some (.struct aH)):∀ j,(aH.mapM (m:=Sem) fun z=>Functor.map (Prod.mk z.offset) (sizeOf z.type)).run Tryz.prog j=.ok #[(0,1),(1,4)] j:=by
  rw [Tryz.underlying212] at c
  cases c
  intro j
  simp [Tryz.sizeOf175,Tryz.sizeOf4]
def ase{aH:Array Field}(c:Tryz.prog.underlying 215=some (.struct aH)):∀ j,(aH.mapM (m:=Sem) fun z=>Functor.map (Prod.mk z.offset) (sizeOf z.type)).run Tryz.prog j=.ok #[(0,1),(1,1),(2,40)] j:=by
  rw [Tryz.underlying215] at c
  cases c
  intro j
  simp [Tryz.sizeOf213,Tryz.sizeOf3,Tryz.sizeOf4]
def X2{aH:Array Field}(c:Tryz.prog.underlying 236=some (.struct aH)):∀ j,(aH.mapM (m:=Sem) fun z=>Functor.map (Prod.mk z.offset) (sizeOf z.type)).run Tryz.prog j=.ok #[(0,1),(1,1)] j:=by
  rw [Tryz.underlying236] at c
  cases c
  intro j
  simp [Tryz.sizeOf234,Tryz.sizeOf3]
def asf{aH:Array Field}(c:Tryz.prog.underlying 239=some (.struct aH)):∀ j,(aH.mapM (m:=Sem) fun z=>Functor.map (Prod.mk z.offset) (sizeOf z.type)).run Tryz.prog j=.ok #[(0,1),(1,1),(2,1),(3,1),(4,1),(5,1)] j:=by
  rw [Tryz.underlying239] at c
  cases c
  intro j
  simp [Tryz.sizeOf3,Tryz.sizeOf71]
def asg{aH:Array Field}(c:Tryz.prog.underlying 241=some (.struct aH)):∀ j,(aH.mapM (m:=Sem) fun z=>Functor.map (Prod.mk z.offset) (sizeOf z.type)).run Tryz.prog j=.ok #[(0,1),(1,1),(2,1),(3,1),(4,1)] j:=by
  rw [Tryz.underlying241] at c
  exact RN
def asi{aH:Array Field}(c:Tryz.prog.underlying 261=some (.struct aH)):∀ j,(aH.mapM (m:=Sem) fun z=>Functor.map (Prod.mk z.offset) (sizeOf z.type)).run Tryz.prog j=.ok #[(0,1),(1,2)] j:=by
  rw [Tryz.underlying261] at c
  cases c
  intro j
  simp [Tryz.sizeOf29,Tryz.sizeOf36]
def asj{aH:Array Field}(c:Tryz.prog.underlying 273=some (.struct aH)):∀ j,(aH.mapM (m:=Sem) fun z=>Functor.map (Prod.mk z.offset) (sizeOf z.type)).run Tryz.prog j=.ok #[(0,1),(1,1),(2,1),(3,1)] j:=by
  rw [Tryz.underlying273] at c
  exact si
def asl{aH:Array Field}(c:Tryz.prog.underlying 292=some (.struct aH)):∀ j,(aH.mapM (m:=Sem) fun z=>Functor.map (Prod.mk z.offset) (sizeOf z.type)).run Tryz.prog j=.ok #[(0,1)] j:=by
  rw [Tryz.underlying292] at c
  cases c
  intro j
  simp [Tryz.sizeOf178]
def asm{aH:Array Field}(c:Tryz.prog.underlying 294=some (.struct aH)):∀ j,(aH.mapM (m:=Sem) fun z=>Functor.map (Prod.mk z.offset) (sizeOf z.type)).run Tryz.prog j=.ok #[(0,1),(1,1),(2,1)] j:=by
  rw [Tryz.underlying294] at c
  cases c
  intro j
  simp [Tryz.sizeOf292,Tryz.sizeOf3,Tryz.sizeOf52]
def asn{aH:Array Field}(c:Tryz.prog.underlying 296=some (.struct aH)):∀ j,(aH.mapM (m:=Sem) fun z=>Functor.map (Prod.mk z.offset) (sizeOf z.type)).run Tryz.prog j=.ok #[(0,1),(1,1),(2,1),(3,1)] j:=by
  rw [Tryz.underlying296] at c
  exact RN
def aso{aH:Array Field}(c:Tryz.prog.underlying 302=some (.struct aH)):∀ j,(aH.mapM (m:=Sem) fun z=>Functor.map (Prod.mk z.offset) (sizeOf z.type)).run Tryz.prog j=.ok #[(0,1),(1,128)] j:=by
  rw [Tryz.underlying302] at c
  cases c
  intro j
  simp [Tryz.sizeOf3,Tryz.sizeOf300]
def asp{aH:Array Field}(c:Tryz.prog.underlying 309=some (.struct aH)):∀ j,(aH.mapM (m:=Sem) fun z=>Functor.map (Prod.mk z.offset) (sizeOf z.type)).run Tryz.prog j=.ok #[(0,1),(1,1)] j:=by
  rw [Tryz.underlying309] at c
  exact si
def asq{aH:Array Field}(c:Tryz.prog.underlying 311=some (.struct aH)):∀ j,(aH.mapM (m:=Sem) fun z=>Functor.map (Prod.mk z.offset) (sizeOf z.type)).run Tryz.prog j=.ok #[(0,3)] j:=by
  rw [Tryz.underlying311] at c
  cases c
  intro j
  simp [Tryz.sizeOf95]
def asr{aH:Array Field}(c:Tryz.prog.underlying 320=some (.struct aH)):∀ j,(aH.mapM (m:=Sem) fun z=>Functor.map (Prod.mk z.offset) (sizeOf z.type)).run Tryz.prog j=.ok #[(0,1),(1,1)] j:=by
  rw [Tryz.underlying320] at c
  exact si
def Dd{aH:Array Field}(c:Tryz.prog.underlying 336=some (.struct aH)):∀ j,(aH.mapM (m:=Sem) fun z=>Functor.map (Prod.mk z.offset) (sizeOf z.type)).run Tryz.prog j=.ok #[(0,1),(1,1),(2,1),(3,1),(4,1)] j:=by
  rw [Tryz.underlying336] at c
  cases c
  intro j
  simp [Tryz.sizeOf3,Tryz.sizeOf305]
def F3{aH:Array Field}(c:Tryz.prog.underlying 345=some (.struct aH)):∀ j,(aH.mapM (m:=Sem) fun z=>Functor.map (Prod.mk z.offset) (sizeOf z.type)).run Tryz.prog j=.ok #[(0,9)] j:=by
  rw [Tryz.underlying345] at c
  cases c
  intro j
  simp [Tryz.sizeOf68]
def ass{aH:Array Field}(c:Tryz.prog.underlying 373=some (.struct aH)):∀ j,(aH.mapM (m:=Sem) fun z=>Functor.map (Prod.mk z.offset) (sizeOf z.type)).run Tryz.prog j=.ok #[(0,1),(1,1)] j:=by
  rw [Tryz.underlying373] at c
  cases c
  intro j
  simp [Tryz.sizeOf28,Tryz.sizeOf3]
def UC{aH:Array Field}(c:Tryz.prog.underlying 51=some (.struct aH)):tB Tryz.prog 0 aH.toList:=by
  rw [Tryz.underlying51] at c
  exact ads
def UD{aH:Array Field}(c:Tryz.prog.underlying 66=some (.struct aH)):tB Tryz.prog 0 aH.toList:=by
  rw [Tryz.underlying66] at c
  exact ads
def aiW{aH:Array Field}(c:Tryz.prog.underlying 175=some (.struct aH)):tB Tryz.prog 0 aH.toList:=by
  rw [Tryz.underlying175] at c
  cases c
  exact ⟨rfl,bd,Tryz.underlying3,rfl,bd,Tryz.underlying3,rfl,bd,Tryz.underlying3,rfl,bd,Tryz.underlying3,trivial⟩
def aiX{aH:Array Field}(c:Tryz.prog.underlying 309=some (.struct aH)):tB Tryz.prog 0 aH.toList:=by
  rw [Tryz.underlying309] at c
  cases c
  exact ⟨rfl,bd,Tryz.underlying3,rfl,bd,Tryz.underlying3,trivial⟩
end Go.Proofs.YtohjlkjhpibkmaaGreatDoor
namespace Go.Proofs.YtohjlkjhpibkmaaGreatDoor
open Go Go.LK Go.Proofs.Tryz
set_option maxRecDepth 100000
set_option maxHeartbeats 4000000
instance:fY prog 3 1:=⟨dt⟩
instance:eG prog 3 false:=⟨ds⟩
instance:ki prog 3 (Value.int IntKind.i64 0):=⟨iF⟩
instance:fY prog 4 1:=⟨u4⟩
instance:eG prog 4 false:=⟨sk⟩
instance:ki prog 4 (Value.bool false):=⟨zeroValue4⟩
instance:eG prog 22 false:=⟨isAgg22⟩
instance:o1 prog 23 (.slice 56):=⟨st⟩
instance:eG prog 23 false:=⟨isAgg23⟩
instance:fY prog 25 5:=⟨sizeOf25⟩
instance:eG prog 25 true:=⟨isAgg25⟩
instance:ki prog 25 (Value.agg #[Value.int IntKind.i64 0,Value.int IntKind.i64 0,Value.int IntKind.i64 0,Value.int IntKind.u64 0,Value.slice none 0 0]):=⟨HN⟩
instance:o1 prog 26 (.slice 49):=⟨runUnderlying26⟩
instance:eG prog 28 false:=⟨isAgg28⟩
instance:eG prog 29 false:=⟨isAgg29⟩
instance:o1 prog 33 (.slice 51):=⟨Es⟩
instance:eG prog 33 false:=⟨isAgg33⟩
instance:o1 prog 34 (.slice 62):=⟨xT⟩
instance:eG prog 34 false:=⟨isAgg34⟩
instance:fY prog 36 2:=⟨o2⟩
instance:eG prog 36 true:=⟨isAgg36⟩
instance:ki prog 36 (Value.agg #[Value.slice none 0 0,Value.slice none 0 0]):=⟨zeroValue36⟩
instance:fY prog 41 6:=⟨sizeOf41⟩
instance:eG prog 41 true:=⟨isAgg41⟩
instance:fY prog 43 7:=⟨sizeOf43⟩
instance:eG prog 43 true:=⟨isAgg43⟩
instance:ki prog 43 (Value.agg #[Value.int IntKind.i64 0,Value.int IntKind.i64 0,Value.int IntKind.i64 0,Value.int IntKind.i64 0,Value.int IntKind.i64 0,Value.int IntKind.i64 0,Value.int IntKind.i64 0]):=⟨zeroValue43⟩
instance:fY prog 45 7:=⟨sizeOf45⟩
instance:eG prog 45 true:=⟨isAgg45⟩
instance:ki prog 45 (Value.agg #[Value.int IntKind.i64 0,Value.int IntKind.i64 0,Value.int IntKind.i64 0,Value.int IntKind.i64 0,Value.int IntKind.i64 0,Value.int IntKind.i64 0,Value.int IntKind.i64 0]):=⟨zeroValue45⟩
instance:fY prog 47 9:=⟨sizeOf47⟩
instance:eG prog 47 true:=⟨isAgg47⟩
instance:fY prog 49 24:=⟨sizeOf49⟩
instance:eG prog 49 true:=⟨isAgg49⟩
instance:fY prog 51 7:=⟨sizeOf51⟩
instance:eG prog 51 true:=⟨isAgg51⟩
instance:o1 prog 52 (.slice 66):=⟨iR⟩
instance:fY prog 52 1:=⟨pE⟩
instance:eG prog 52 false:=⟨isAgg52⟩
instance:o1 prog 54 (.slice 136):=⟨xV⟩
instance:eG prog 54 false:=⟨isAgg54⟩
instance:fY prog 56 14:=⟨tN⟩
instance:eG prog 56 true:=⟨isAgg56⟩
instance:ki prog 56 (Value.agg #[Value.int IntKind.i64 0,Value.int IntKind.i64 0,Value.int IntKind.i64 0,Value.int IntKind.i64 0,Value.int IntKind.i64 0,Value.int IntKind.i64 0,Value.int IntKind.i64 0,Value.int IntKind.i64 0,Value.int IntKind.i64 0,Value.int IntKind.i64 0,Value.int IntKind.i64 0,Value.int IntKind.i64 0,Value.int IntKind.i64 0,Value.slice none 0 0]):=⟨HQ⟩
instance:o1 prog 57 (.slice 68):=⟨ws⟩
instance:eG prog 57 false:=⟨isAgg57⟩
instance:o1 prog 60 (.slice 3):=⟨gz⟩
instance:fY prog 60 1:=⟨tO⟩
instance:eG prog 60 false:=⟨isAgg60⟩
instance:ki prog 60 (Value.slice none 0 0):=⟨zeroValue60⟩
instance:fY prog 62 23:=⟨B8⟩
instance:eG prog 62 true:=⟨isAgg62⟩
instance:fY prog 66 7:=⟨gE⟩
instance:eG prog 66 true:=⟨qL⟩
instance:ki prog 66 (Value.agg #[Value.int IntKind.i64 0,Value.int IntKind.i64 0,Value.int IntKind.i64 0,Value.int IntKind.i64 0,Value.int IntKind.i64 0,Value.int IntKind.i64 0,Value.int IntKind.i64 0]):=⟨qh⟩
instance:fY prog 68 9:=⟨j3⟩
instance:eG prog 68 true:=⟨zt⟩
instance:ki prog 68 (Value.agg #[Value.int IntKind.i64 0,Value.int IntKind.i64 0,Value.int IntKind.i64 0,Value.int IntKind.i64 0,Value.int IntKind.i64 0,Value.int IntKind.i64 0,Value.int IntKind.i64 0,Value.int IntKind.i64 0,Value.slice none 0 0]):=⟨j2⟩
instance:o1 prog 71 (.slice 175):=⟨nr⟩
instance:eG prog 71 false:=⟨isAgg71⟩
instance:fY prog 82 1:=⟨sizeOf82⟩
instance:eG prog 82 false:=⟨isAgg82⟩
instance:fY prog 83 1:=⟨sizeOf83⟩
instance:eG prog 83 false:=⟨isAgg83⟩
instance:fY prog 84 1:=⟨sizeOf84⟩
instance:eG prog 84 false:=⟨isAgg84⟩
instance:fY prog 85 1:=⟨sizeOf85⟩
instance:eG prog 85 false:=⟨isAgg85⟩
instance:eG prog 86 false:=⟨isAgg86⟩
instance:eG prog 87 false:=⟨isAgg87⟩
instance:eG prog 88 false:=⟨isAgg88⟩
instance:ki prog 93 (Value.agg #[Value.slice none 0 0,Value.slice none 0 0,Value.slice none 0 0,Value.slice none 0 0,Value.slice none 0 0,Value.slice none 0 0]):=⟨zeroValue93⟩
instance:fY prog 116 2:=⟨sizeOf116⟩
instance:eG prog 116 true:=⟨isAgg116⟩
instance:ki prog 116 (Value.agg #[Value.int IntKind.i64 0,Value.int IntKind.i64 0]):=⟨B2⟩
instance:fY prog 118 3:=⟨sizeOf118⟩
instance:eG prog 118 true:=⟨isAgg118⟩
instance:ki prog 118 (Value.agg #[Value.int IntKind.i64 0,Value.int IntKind.i64 0,Value.int IntKind.i64 0]):=⟨zeroValue118⟩
instance:fY prog 120 17:=⟨B4⟩
instance:eG prog 120 true:=⟨isAgg120⟩
instance:ki prog 120 (Value.agg #[Value.int IntKind.i64 0,Value.int IntKind.i64 0,Value.int IntKind.i64 0,Value.int IntKind.i64 0,Value.int IntKind.i64 0,Value.int IntKind.i64 0,Value.int IntKind.i64 0,Value.int IntKind.i64 0,Value.slice none 0 0,Value.slice none 0 0,Value.int IntKind.i64 0,Value.int IntKind.i64 0,Value.int IntKind.i64 0,Value.int IntKind.i64 0,Value.int IntKind.i64 0,Value.int IntKind.i64 0,Value.int IntKind.i64 0]):=⟨zeroValue120⟩
instance:o1 prog 123 (.slice 320):=⟨wo⟩
instance:eG prog 123 false:=⟨isAgg123⟩
instance:fY prog 136 4:=⟨zL⟩
instance:eG prog 136 true:=⟨isAgg136⟩
instance:ki prog 136 (Value.agg #[Value.int IntKind.i64 0,Value.int IntKind.i64 0,Value.int IntKind.i64 0,Value.int IntKind.i64 0]):=⟨zeroValue136⟩
instance:eG prog 148 false:=⟨isAgg148⟩
instance:fY prog 161 6:=⟨sizeOf161⟩
instance:eG prog 161 true:=⟨isAgg161⟩
instance:ki prog 161 (Value.agg #[Value.int IntKind.i64 0,Value.int IntKind.i64 0,Value.int IntKind.i64 0,Value.int IntKind.i64 0,Value.bool false,Value.bool false]):=⟨zeroValue161⟩
instance:eG prog 163 false:=⟨isAgg163⟩
instance:eG prog 167 false:=⟨isAgg167⟩
instance:eG prog 168 false:=⟨isAgg168⟩
instance:eG prog 169 false:=⟨isAgg169⟩
instance:eG prog 170 false:=⟨isAgg170⟩
instance:fY prog 175 4:=⟨hV⟩
instance:eG prog 175 true:=⟨nU⟩
instance:ki prog 175 (Value.agg #[Value.int IntKind.i64 0,Value.int IntKind.i64 0,Value.int IntKind.i64 0,Value.int IntKind.i64 0]):=⟨ns⟩
instance:eG prog 178 false:=⟨isAgg178⟩
instance:fY prog 182 2:=⟨sizeOf182⟩
instance:eG prog 182 true:=⟨isAgg182⟩
instance:fY prog 184 2:=⟨sizeOf184⟩
instance:eG prog 184 true:=⟨isAgg184⟩
instance:ki prog 184 (Value.agg #[Value.int IntKind.i64 0,Value.int IntKind.i64 0]):=⟨zeroValue184⟩
instance:fY prog 188 3:=⟨sizeOf188⟩
instance:eG prog 188 true:=⟨isAgg188⟩
instance:ki prog 188 (Value.agg #[Value.int IntKind.u64 0,Value.int IntKind.i64 0,Value.int IntKind.i64 0]):=⟨zeroValue188⟩
instance:eG prog 193 false:=⟨isAgg193⟩
instance:o1 prog 234 (.slice 241):=⟨zE⟩
instance:eG prog 234 false:=⟨isAgg234⟩
instance:fY prog 236 2:=⟨B6⟩
instance:eG prog 236 true:=⟨isAgg236⟩
instance:ki prog 236 (Value.agg #[Value.int IntKind.i64 0,Value.slice none 0 0]):=⟨zK⟩
instance:fY prog 239 6:=⟨sizeOf239⟩
instance:eG prog 239 true:=⟨isAgg239⟩
instance:fY prog 241 5:=⟨zM⟩
instance:eG prog 241 true:=⟨isAgg241⟩
instance:ki prog 241 (Value.agg #[Value.int IntKind.i64 0,Value.int IntKind.i64 0,Value.int IntKind.i64 0,Value.int IntKind.i64 0,Value.bool false]):=⟨xW⟩
instance:fY prog 273 4:=⟨sizeOf273⟩
instance:eG prog 273 true:=⟨isAgg273⟩
instance:fY prog 303 2:=⟨wy⟩
instance:ki prog 303 (Value.agg #[Value.int IntKind.i64 0,Value.int IntKind.i64 0]):=⟨xX⟩
instance:fY prog 304 14:=⟨sizeOf304⟩
instance:eG prog 304 true:=⟨isAgg304⟩
instance:ki prog 304 (Value.agg #[Value.int IntKind.i64 0,Value.int IntKind.i64 0,Value.int IntKind.i64 0,Value.int IntKind.i64 0,Value.int IntKind.i64 0,Value.int IntKind.i64 0,Value.int IntKind.i64 0,Value.int IntKind.i64 0,Value.int IntKind.i64 0,Value.int IntKind.i64 0,Value.int IntKind.i64 0,Value.int IntKind.i64 0,Value.int IntKind.i64 0,Value.int IntKind.i64 0]):=⟨zeroValue304⟩
instance:fY prog 309 2:=⟨sizeOf309⟩
instance:eG prog 309 true:=⟨isAgg309⟩
instance:fY prog 311 3:=⟨sizeOf311⟩
instance:fY prog 320 2:=⟨wz⟩
instance:eG prog 320 true:=⟨isAgg320⟩
instance:eG prog 354 false:=⟨isAgg354⟩
instance:fY prog 356 3:=⟨sizeOf356⟩
instance:ki prog 356 (Value.agg #[Value.nilFunc,Value.nilFunc,Value.nilFunc]):=⟨HO⟩
instance:o1 prog 363 (.slice 4):=⟨runUnderlying363⟩
instance:fY prog 373 2:=⟨sizeOf373⟩
instance:eG prog 373 true:=⟨isAgg373⟩
instance:ki prog 373 (Value.agg #[Value.int IntKind.i64 0,Value.nilFunc]):=⟨zeroValue373⟩
instance:o1 prog 374 (.slice 373):=⟨runUnderlying374⟩
instance:eR prog 25 (Value.agg #[Value.int IntKind.i64 0,Value.int IntKind.i64 0,Value.int IntKind.i64 0,Value.int IntKind.u64 0,Value.slice none 0 0]) #[(0,1),(1,1),(2,1),(3,1),(4,1)]:=eR.eo runUnderlying25 HN (ash underlying25)
instance:eR prog 36 (Value.agg #[Value.slice none 0 0,Value.slice none 0 0]) #[(0,1),(1,1)]:=eR.eo runUnderlying36 zeroValue36 (X3 underlying36)
instance:eR prog 41 (Value.agg #[Value.int IntKind.i64 0,Value.int IntKind.i64 0,Value.int IntKind.i64 0,Value.int IntKind.i64 0,Value.int IntKind.i64 0,Value.int IntKind.i64 0]) #[(0,1),(1,1),(2,1),(3,1),(4,1),(5,1)]:=eR.eo runUnderlying41 zeroValue41 (ast underlying41)
instance:eR prog 43 (Value.agg #[Value.int IntKind.i64 0,Value.int IntKind.i64 0,Value.int IntKind.i64 0,Value.int IntKind.i64 0,Value.int IntKind.i64 0,Value.int IntKind.i64 0,Value.int IntKind.i64 0]) #[(0,1),(1,1),(2,1),(3,1),(4,1),(5,1),(6,1)]:=eR.eo runUnderlying43 zeroValue43 (asu underlying43)
instance:eR prog 45 (Value.agg #[Value.int IntKind.i64 0,Value.int IntKind.i64 0,Value.int IntKind.i64 0,Value.int IntKind.i64 0,Value.int IntKind.i64 0,Value.int IntKind.i64 0,Value.int IntKind.i64 0]) #[(0,1),(1,1),(2,1),(3,1),(4,1),(5,1),(6,1)]:=eR.eo runUnderlying45 zeroValue45 (asv underlying45)
instance:eR prog 51 (Value.agg #[Value.int IntKind.i64 0,Value.int IntKind.i64 0,Value.int IntKind.i64 0,Value.int IntKind.i64 0,Value.int IntKind.i64 0,Value.int IntKind.i64 0,Value.int IntKind.i64 0]) #[(0,1),(1,1),(2,1),(3,1),(4,1),(5,1),(6,1)]:=eR.eo runUnderlying51 HP (X4 BP)
instance:eR prog 56 (Value.agg #[Value.int IntKind.i64 0,Value.int IntKind.i64 0,Value.int IntKind.i64 0,Value.int IntKind.i64 0,Value.int IntKind.i64 0,Value.int IntKind.i64 0,Value.int IntKind.i64 0,Value.int IntKind.i64 0,Value.int IntKind.i64 0,Value.int IntKind.i64 0,Value.int IntKind.i64 0,Value.int IntKind.i64 0,Value.int IntKind.i64 0,Value.slice none 0 0]) #[(0,1),(1,1),(2,1),(3,1),(4,1),(5,1),(6,7),(13,1)]:=eR.eo runUnderlying56 HQ (asw underlying56)
instance:eR prog 62 (Value.agg #[Value.int IntKind.i64 0,Value.int IntKind.i64 0,Value.int IntKind.i64 0,Value.int IntKind.i64 0,Value.int IntKind.i64 0,Value.int IntKind.i64 0,Value.int IntKind.i64 0,Value.int IntKind.i64 0,Value.int IntKind.i64 0,Value.int IntKind.i64 0,Value.int IntKind.i64 0,Value.int IntKind.i64 0,Value.int IntKind.i64 0,Value.int IntKind.i64 0,Value.int IntKind.i64 0,Value.int IntKind.i64 0,Value.int IntKind.i64 0,Value.int IntKind.i64 0,Value.int IntKind.i64 0,Value.int IntKind.i64 0,Value.int IntKind.i64 0,Value.int IntKind.i64 0,Value.int IntKind.i64 0]) #[(0,1),(1,6),(7,7),(14,9)]:=eR.eo runUnderlying62 Ey (asx underlying62)
instance:eR prog 66 (Value.agg #[Value.int IntKind.i64 0,Value.int IntKind.i64 0,Value.int IntKind.i64 0,Value.int IntKind.i64 0,Value.int IntKind.i64 0,Value.int IntKind.i64 0,Value.int IntKind.i64 0]) #[(0,1),(1,1),(2,1),(3,1),(4,1),(5,1),(6,1)]:=eR.eo runUnderlying66 qh (asy Ed)
instance:eR prog 68 (Value.agg #[Value.int IntKind.i64 0,Value.int IntKind.i64 0,Value.int IntKind.i64 0,Value.int IntKind.i64 0,Value.int IntKind.i64 0,Value.int IntKind.i64 0,Value.int IntKind.i64 0,Value.int IntKind.i64 0,Value.slice none 0 0]) #[(0,7),(7,1),(8,1)]:=eR.eo runUnderlying68 j2 (X5 underlying68)
instance:eR prog 90 (Value.agg #[Value.pointer none,Value.int IntKind.i64 0,Value.int IntKind.i64 0,Value.int IntKind.i64 0,Value.int IntKind.u64 0,Value.slice none 0 0,Value.int IntKind.i64 0,Value.int IntKind.i64 0,Value.int IntKind.i64 0,Value.int IntKind.i64 0,Value.int IntKind.i64 0,Value.int IntKind.i64 0,Value.int IntKind.i64 0,Value.int IntKind.i64 0,Value.int IntKind.i64 0,Value.int IntKind.i64 0,Value.int IntKind.i64 0,Value.int IntKind.i64 0,Value.int IntKind.i64 0,Value.int IntKind.i64 0,Value.slice none 0 0,Value.int IntKind.i64 0,Value.int IntKind.i64 0,Value.int IntKind.i64 0,Value.int IntKind.i64 0,Value.pointer none,Value.pointer none,Value.pointer none,Value.map none,Value.pointer none,Value.pointer none]) #[(0,1),(1,5),(6,1),(7,14),(21,1),(22,1),(23,1),(24,1),(25,1),(26,1),(27,1),(28,1),(29,1),(30,1)]:=eR.eo runUnderlying90 zeroValue90 (asz underlying90)
instance:eR prog 116 (Value.agg #[Value.int IntKind.i64 0,Value.int IntKind.i64 0]) #[(0,1),(1,1)]:=eR.eo runUnderlying116 B2 (ar3 underlying116)
instance:eR prog 118 (Value.agg #[Value.int IntKind.i64 0,Value.int IntKind.i64 0,Value.int IntKind.i64 0]) #[(0,1),(1,1),(2,1)]:=eR.eo runUnderlying118 zeroValue118 (ar4 underlying118)
instance:eR prog 136 (Value.agg #[Value.int IntKind.i64 0,Value.int IntKind.i64 0,Value.int IntKind.i64 0,Value.int IntKind.i64 0]) #[(0,1),(1,1),(2,1),(3,1)]:=eR.eo runUnderlying136 zeroValue136 (ar6 underlying136)
instance:eR prog 161 (Value.agg #[Value.int IntKind.i64 0,Value.int IntKind.i64 0,Value.int IntKind.i64 0,Value.int IntKind.i64 0,Value.bool false,Value.bool false]) #[(0,1),(1,1),(2,1),(3,1),(4,1),(5,1)]:=eR.eo runUnderlying161 zeroValue161 (ar7 underlying161)
instance:eR prog 172 (Value.agg #[Value.pointer none,Value.pointer none,Value.int IntKind.i64 0,Value.int IntKind.i64 0,Value.int IntKind.i64 0,Value.int IntKind.i64 0,Value.int IntKind.i64 0,Value.int IntKind.i64 0,Value.int IntKind.i64 0,Value.int IntKind.i64 0,Value.int IntKind.i64 0,Value.pointer none,Value.pointer none,Value.int IntKind.i64 0,Value.int IntKind.i64 0]) #[(0,1),(1,1),(2,1),(3,1),(4,7),(11,1),(12,1),(13,1),(14,1)]:=eR.eo runUnderlying172 zeroValue172 (ar8 underlying172)
instance:eR prog 182 (Value.agg #[Value.int IntKind.i64 0,Value.int IntKind.i64 0]) #[(0,1),(1,1)]:=eR.eo runUnderlying182 zeroValue182 (ar_ underlying182)
instance:eR prog 184 (Value.agg #[Value.int IntKind.i64 0,Value.int IntKind.i64 0]) #[(0,2)]:=eR.eo runUnderlying184 zeroValue184 (ar' underlying184)
instance:eR prog 188 (Value.agg #[Value.int IntKind.u64 0,Value.int IntKind.i64 0,Value.int IntKind.i64 0]) #[(0,1),(1,1),(2,1)]:=eR.eo runUnderlying188 zeroValue188 (asa underlying188)
instance:eR prog 195 (Value.agg #[Value.map none,Value.map none]) #[(0,1),(1,1)]:=eR.eo runUnderlying195 zeroValue195 (asb underlying195)
instance:eR prog 206 (Value.agg #[Value.pointer none,Value.int IntKind.i64 0]) #[(0,1),(1,1)]:=eR.eo runUnderlying206 zeroValue206 (asc underlying206)
instance:eR prog 210 (Value.agg #[Value.int IntKind.i64 0,Value.pointer none,Value.pointer none,Value.pointer none,Value.pointer none,Value.pointer none,Value.pointer none,Value.pointer none,Value.pointer none,Value.pointer none,Value.pointer none,Value.pointer none,Value.pointer none,Value.pointer none,Value.pointer none,Value.pointer none,Value.pointer none]) #[(0,1),(1,16)]:=eR.eo runUnderlying210 zeroValue210 (asd underlying210)
instance:eR prog 236 (Value.agg #[Value.int IntKind.i64 0,Value.slice none 0 0]) #[(0,1),(1,1)]:=eR.eo runUnderlying236 zK (X2 underlying236)
instance:eR prog 239 (Value.agg #[Value.int IntKind.i64 0,Value.int IntKind.i64 0,Value.int IntKind.i64 0,Value.int IntKind.i64 0,Value.int IntKind.i64 0,Value.slice none 0 0]) #[(0,1),(1,1),(2,1),(3,1),(4,1),(5,1)]:=eR.eo runUnderlying239 zeroValue239 (asf underlying239)
instance:eR prog 241 (Value.agg #[Value.int IntKind.i64 0,Value.int IntKind.i64 0,Value.int IntKind.i64 0,Value.int IntKind.i64 0,Value.bool false]) #[(0,1),(1,1),(2,1),(3,1),(4,1)]:=eR.eo runUnderlying241 xW (asg underlying241)
instance:eR prog 261 (Value.agg #[Value.pointer none,Value.slice none 0 0,Value.slice none 0 0]) #[(0,1),(1,2)]:=eR.eo runUnderlying261 zeroValue261 (asi underlying261)
instance:eR prog 273 (Value.agg #[Value.int IntKind.i64 0,Value.int IntKind.i64 0,Value.int IntKind.i64 0,Value.int IntKind.i64 0]) #[(0,1),(1,1),(2,1),(3,1)]:=eR.eo runUnderlying273 zeroValue273 (asj underlying273)
instance:eR prog 294 (Value.agg #[Value.map none,Value.int IntKind.i64 0,Value.slice none 0 0]) #[(0,1),(1,1),(2,1)]:=eR.eo runUnderlying294 zeroValue294 (asm underlying294)
instance:eR prog 296 (Value.agg #[Value.bool false,Value.int IntKind.i64 0,Value.int IntKind.i64 0,Value.int IntKind.i64 0]) #[(0,1),(1,1),(2,1),(3,1)]:=eR.eo runUnderlying296 zeroValue296 (asn underlying296)
instance:eR prog 302 (Value.agg zeroCells302) #[(0,1),(1,128)]:=eR.eo runUnderlying302 zeroValue302 (aso underlying302)
instance:eR prog 309 (Value.agg #[Value.int IntKind.i64 0,Value.int IntKind.i64 0]) #[(0,1),(1,1)]:=eR.eo runUnderlying309 zeroValue309 (asp underlying309)
instance:eR prog 311 (Value.agg #[Value.int IntKind.i64 0,Value.int IntKind.i64 0,Value.int IntKind.i64 0]) #[(0,3)]:=eR.eo runUnderlying311 zeroValue311 (asq underlying311)
instance:eR prog 320 (Value.agg #[Value.int IntKind.i64 0,Value.int IntKind.i64 0]) #[(0,1),(1,1)]:=eR.eo runUnderlying320 Ew (asr underlying320)
instance:eR prog 345 (Value.agg #[Value.int IntKind.i64 0,Value.int IntKind.i64 0,Value.int IntKind.i64 0,Value.int IntKind.i64 0,Value.int IntKind.i64 0,Value.int IntKind.i64 0,Value.int IntKind.i64 0,Value.int IntKind.i64 0,Value.slice none 0 0]) #[(0,9)]:=eR.eo Et Ex (F3 Ec)
instance:eR prog 373 (Value.agg #[Value.int IntKind.i64 0,Value.nilFunc]) #[(0,1),(1,1)]:=eR.eo runUnderlying373 zeroValue373 (ass underlying373)
instance:aQ prog 9:=⟨call9⟩
instance:aQ prog 10:=⟨call10⟩
instance:aQ prog 12:=⟨call12⟩
instance:aQ prog 14:=⟨call14⟩
instance:aQ prog 17:=⟨call17⟩
instance:aQ prog 18:=⟨call18⟩
instance:aQ prog 19:=⟨call19⟩
instance:aQ prog 20:=⟨call20⟩
instance:aQ prog 23:=⟨call23⟩
instance:aQ prog 24:=⟨call24⟩
instance:aQ prog 25:=⟨call25⟩
instance:aQ prog 27:=⟨call27⟩
instance:aQ prog 28:=⟨call28⟩
instance:aQ prog 31:=⟨call31⟩
instance:aQ prog 32:=⟨call32⟩
instance:aQ prog 33:=⟨call33⟩
instance:aQ prog 34:=⟨call34⟩
instance:aQ prog 35:=⟨call35⟩
instance:aQ prog 36:=⟨call36⟩
instance:aQ prog 37:=⟨call37⟩
instance:aQ prog 38:=⟨call38⟩
instance:aQ prog 39:=⟨call39⟩
instance:aQ prog 40:=⟨call40⟩
instance:aQ prog 42:=⟨call42⟩
instance:aQ prog 43:=⟨call43⟩
instance:aQ prog 44:=⟨call44⟩
instance:aQ prog 45:=⟨call45⟩
instance:aQ prog 46:=⟨call46⟩
instance:aQ prog 49:=⟨call49⟩
instance:aQ prog 50:=⟨call50⟩
instance:aQ prog 51:=⟨call51⟩
instance:aQ prog 52:=⟨call52⟩
instance:aQ prog 53:=⟨call53⟩
instance:aQ prog 54:=⟨call54⟩
instance:aQ prog 55:=⟨call55⟩
instance:aQ prog 56:=⟨call56⟩
instance:aQ prog 57:=⟨call57⟩
instance:aQ prog 58:=⟨call58⟩
instance:aQ prog 66:=⟨call66⟩
instance:aQ prog 67:=⟨call67⟩
instance:aQ prog 68:=⟨call68⟩
instance:aQ prog 69:=⟨call69⟩
instance:aQ prog 70:=⟨call70⟩
instance:aQ prog 71:=⟨call71⟩
instance:aQ prog 72:=⟨call72⟩
instance:aQ prog 73:=⟨call73⟩
instance:aQ prog 74:=⟨call74⟩
instance:aQ prog 75:=⟨call75⟩
instance:aQ prog 76:=⟨call76⟩
instance:aQ prog 78:=⟨call78⟩
instance:aQ prog 79:=⟨call79⟩
instance:aQ prog 80:=⟨call80⟩
instance:aQ prog 81:=⟨call81⟩
instance:aQ prog 82:=⟨call82⟩
instance:aQ prog 83:=⟨call83⟩
instance:aQ prog 84:=⟨call84⟩
instance:aQ prog 85:=⟨call85⟩
instance:aQ prog 86:=⟨call86⟩
instance:aQ prog 87:=⟨call87⟩
instance:aQ prog 91:=⟨call91⟩
instance:aQ prog 92:=⟨call92⟩
instance:aQ prog 93:=⟨call93⟩
instance:aQ prog 94:=⟨call94⟩
instance:aQ prog 95:=⟨call95⟩
instance:aQ prog 96:=⟨call96⟩
instance:aQ prog 98:=⟨call98⟩
instance:aQ prog 99:=⟨call99⟩
instance:aQ prog 100:=⟨call100⟩
instance:aQ prog 102:=⟨call102⟩
instance:aQ prog 103:=⟨call103⟩
instance:aQ prog 104:=⟨call104⟩
instance:aQ prog 105:=⟨call105⟩
instance:aQ prog 106:=⟨call106⟩
instance:aQ prog 109:=⟨call109⟩
instance:aQ prog 111:=⟨call111⟩
instance:aQ prog 113:=⟨call113⟩
instance:aQ prog 114:=⟨call114⟩
instance:aQ prog 115:=⟨call115⟩
instance:aQ prog 116:=⟨call116⟩
instance:aQ prog 117:=⟨call117⟩
instance:aQ prog 118:=⟨call118⟩
instance:aQ prog 119:=⟨call119⟩
instance:aQ prog 120:=⟨call120⟩
instance:aQ prog 121:=⟨call121⟩
instance:aQ prog 122:=⟨call122⟩
instance:aQ prog 123:=⟨call123⟩
instance:aQ prog 124:=⟨call124⟩
instance:aQ prog 125:=⟨call125⟩
instance:aQ prog 126:=⟨call126⟩
instance:aQ prog 127:=⟨call127⟩
instance:aQ prog 128:=⟨call128⟩
instance:aQ prog 129:=⟨call129⟩
instance:aQ prog 130:=⟨call130⟩
instance:aQ prog 131:=⟨call131⟩
instance:aQ prog 132:=⟨call132⟩
instance:aQ prog 133:=⟨call133⟩
instance:aQ prog 134:=⟨call134⟩
instance:aQ prog 135:=⟨call135⟩
instance:aQ prog 136:=⟨call136⟩
instance:aQ prog 137:=⟨call137⟩
instance:aQ prog 138:=⟨call138⟩
instance:aQ prog 139:=⟨call139⟩
instance:aQ prog 140:=⟨call140⟩
instance:aQ prog 141:=⟨call141⟩
instance:aQ prog 142:=⟨call142⟩
instance:aQ prog 143:=⟨call143⟩
instance:aQ prog 144:=⟨call144⟩
instance:aQ prog 145:=⟨call145⟩
instance:aQ prog 146:=⟨call146⟩
instance:aQ prog 147:=⟨call147⟩
instance:aQ prog 148:=⟨call148⟩
instance:aQ prog 149:=⟨call149⟩
instance:aQ prog 150:=⟨call150⟩
instance:aQ prog 151:=⟨call151⟩
instance:aQ prog 152:=⟨call152⟩
instance:aQ prog 153:=⟨call153⟩
instance:aQ prog 154:=⟨call154⟩
instance:aQ prog 155:=⟨call155⟩
instance:aQ prog 156:=⟨call156⟩
instance:aQ prog 157:=⟨call157⟩
instance:aQ prog 158:=⟨call158⟩
instance:aQ prog 159:=⟨call159⟩
instance:aQ prog 160:=⟨call160⟩
instance:aQ prog 161:=⟨call161⟩
instance:aQ prog 162:=⟨call162⟩
instance:aQ prog 163:=⟨call163⟩
instance:aQ prog 165:=⟨call165⟩
instance:aQ prog 166:=⟨call166⟩
instance:aQ prog 167:=⟨call167⟩
instance:aQ prog 168:=⟨call168⟩
instance:aQ prog 169:=⟨call169⟩
instance:aQ prog 170:=⟨call170⟩
instance:aQ prog 171:=⟨call171⟩
instance:aQ prog 172:=⟨call172⟩
instance:aQ prog 173:=⟨call173⟩
instance:aQ prog 174:=⟨call174⟩
instance:aQ prog 175:=⟨call175⟩
instance:aQ prog 176:=⟨call176⟩
instance:aQ prog 177:=⟨call177⟩
instance:aQ prog 178:=⟨call178⟩
instance:aQ prog 179:=⟨call179⟩
instance:aQ prog 180:=⟨call180⟩
instance:aQ prog 181:=⟨call181⟩
instance:aQ prog 182:=⟨call182⟩
instance:aQ prog 183:=⟨call183⟩
instance:aQ prog 184:=⟨call184⟩
instance:aQ prog 185:=⟨call185⟩
instance:aQ prog 186:=⟨call186⟩
instance:aQ prog 187:=⟨call187⟩
instance:aQ prog 188:=⟨call188⟩
instance:aQ prog 190:=⟨call190⟩
instance:aQ prog 191:=⟨call191⟩
instance:aQ prog 192:=⟨call192⟩
instance:aQ prog 193:=⟨call193⟩
instance:aQ prog 194:=⟨call194⟩
instance:aQ prog 195:=⟨call195⟩
instance:aQ prog 199:=⟨call199⟩
instance:aQ prog 200:=⟨call200⟩
instance:aQ prog 201:=⟨call201⟩
instance:aQ prog 204:=⟨call204⟩
instance:aQ prog 206:=⟨call206⟩
instance:aQ prog 208:=⟨call208⟩
instance:aQ prog 209:=⟨call209⟩
instance:aQ prog 210:=⟨call210⟩
instance:aQ prog 211:=⟨call211⟩
instance:aQ prog 212:=⟨call212⟩
instance:aQ prog 213:=⟨call213⟩
instance:aQ prog 214:=⟨call214⟩
instance:aQ prog 215:=⟨call215⟩
instance:aQ prog 216:=⟨call216⟩
instance:aQ prog 217:=⟨call217⟩
instance:aQ prog 218:=⟨call218⟩
instance:aQ prog 219:=⟨call219⟩
instance:aQ prog 220:=⟨call220⟩
instance:aQ prog 221:=⟨call221⟩
instance:aQ prog 222:=⟨call222⟩
instance:aQ prog 223:=⟨call223⟩
instance:aQ prog 224:=⟨call224⟩
instance:aQ prog 225:=⟨call225⟩
instance:aQ prog 226:=⟨call226⟩
instance:aQ prog 228:=⟨call228⟩
instance:aQ prog 229:=⟨call229⟩
instance:aQ prog 230:=⟨call230⟩
instance:aQ prog 232:=⟨call232⟩
instance:aQ prog 233:=⟨call233⟩
instance:aQ prog 234:=⟨call234⟩
instance:aQ prog 235:=⟨call235⟩
instance:aQ prog 236:=⟨call236⟩
instance:aQ prog 238:=⟨call238⟩
instance:aQ prog 239:=⟨call239⟩
instance:aQ prog 240:=⟨call240⟩
instance:aQ prog 241:=⟨call241⟩
instance:aQ prog 244:=⟨call244⟩
instance:aQ prog 245:=⟨call245⟩
instance:aQ prog 247:=⟨call247⟩
instance:aQ prog 248:=⟨call248⟩
instance:aQ prog 249:=⟨call249⟩
instance:aQ prog 250:=⟨call250⟩
instance:aQ prog 251:=⟨call251⟩
instance:aQ prog 252:=⟨call252⟩
instance:aQ prog 253:=⟨call253⟩
instance:aQ prog 254:=⟨call254⟩
instance:aQ prog 255:=⟨call255⟩
instance:aQ prog 256:=⟨call256⟩
instance:aQ prog 257:=⟨call257⟩
instance:aQ prog 259:=⟨call259⟩
instance:aQ prog 260:=⟨call260⟩
instance:aQ prog 261:=⟨call261⟩
instance:aQ prog 262:=⟨call262⟩
instance:aQ prog 263:=⟨call263⟩
instance:aQ prog 264:=⟨call264⟩
instance:aQ prog 265:=⟨call265⟩
instance:aQ prog 266:=⟨call266⟩
instance:aQ prog 267:=⟨call267⟩
instance:aQ prog 269:=⟨call269⟩
instance:aQ prog 270:=⟨call270⟩
instance:aQ prog 271:=⟨call271⟩
instance:aQ prog 272:=⟨call272⟩
instance:aQ prog 273:=⟨call273⟩
instance:aQ prog 274:=⟨call274⟩
instance:aQ prog 275:=⟨call275⟩
instance:aQ prog 277:=⟨call277⟩
instance:aQ prog 280:=⟨call280⟩
instance:aQ prog 281:=⟨call281⟩
instance:aQ prog 283:=⟨call283⟩
instance:aQ prog 284:=⟨call284⟩
instance:aQ prog 285:=⟨call285⟩
instance:aQ prog 286:=⟨call286⟩
instance:aQ prog 287:=⟨call287⟩
instance:aQ prog 288:=⟨call288⟩
instance:aQ prog 292:=⟨call292⟩
instance:aQ prog 293:=⟨call293⟩
instance:aQ prog 294:=⟨call294⟩
instance:aQ prog 295:=⟨call295⟩
instance:aQ prog 298:=⟨call298⟩
instance:aQ prog 301:=⟨call301⟩
instance:aQ prog 302:=⟨call302⟩
instance:aQ prog 303:=⟨call303⟩
instance:aQ prog 304:=⟨call304⟩
instance:aQ prog 305:=⟨call305⟩
instance:aQ prog 306:=⟨call306⟩
instance:aQ prog 307:=⟨call307⟩
instance:aQ prog 308:=⟨call308⟩
instance:aQ prog 309:=⟨call309⟩
instance:aQ prog 310:=⟨call310⟩
instance:aQ prog 311:=⟨call311⟩
instance:aQ prog 312:=⟨call312⟩
instance:aQ prog 313:=⟨call313⟩
instance:aQ prog 314:=⟨call314⟩
instance:aQ prog 315:=⟨call315⟩
instance:aQ prog 316:=⟨call316⟩
instance:aQ prog 317:=⟨call317⟩
instance:aQ prog 318:=⟨call318⟩
instance:aQ prog 320:=⟨call320⟩
instance:aQ prog 321:=⟨call321⟩
instance:aQ prog 322:=⟨call322⟩
instance:aQ prog 326:=⟨call326⟩
instance:aQ prog 330:=⟨call330⟩
instance:aQ prog 331:=⟨call331⟩
instance:aQ prog 332:=⟨call332⟩
instance:aQ prog 333:=⟨call333⟩
instance:aQ prog 334:=⟨call334⟩
instance:aQ prog 335:=⟨call335⟩
instance:aQ prog 336:=⟨call336⟩
instance:aQ prog 337:=⟨call337⟩
instance:aQ prog 338:=⟨call338⟩
instance:aQ prog 340:=⟨call340⟩
instance:aQ prog 342:=⟨call342⟩
instance:aQ prog 343:=⟨call343⟩
instance:aQ prog 344:=⟨call344⟩
instance:aQ prog 346:=⟨call346⟩
instance:aQ prog 347:=⟨call347⟩
instance:aQ prog 348:=⟨call348⟩
instance:aQ prog 349:=⟨call349⟩
instance:aQ prog 350:=⟨call350⟩
instance:aQ prog 351:=⟨call351⟩
instance:aQ prog 352:=⟨call352⟩
instance:aQ prog 353:=⟨call353⟩
instance:aQ prog 354:=⟨call354⟩
instance:aQ prog 355:=⟨call355⟩
instance:aQ prog 356:=⟨call356⟩
instance:aQ prog 358:=⟨call358⟩
instance:aQ prog 371:=⟨call371⟩
instance:aQ prog 377:=⟨call377⟩
instance:aQ prog 378:=⟨call378⟩
instance:aQ prog 379:=⟨call379⟩
instance:aQ prog 380:=⟨call380⟩
instance:aQ prog 389:=⟨call389⟩
instance:aQ prog 390:=⟨call390⟩
instance:aQ prog 392:=⟨call392⟩
instance:uQ prog 123 320 2 16:=⟨_,_,D',yB.1,yB.2.1,yB.2.2.1,yB.2.2.2,rfl,rfl⟩
instance:uQ prog 23 56 14 128:=⟨_,_,underlying23,I9.1,I9.2.1,I9.2.2.1,I9.2.2.2,rfl,rfl⟩
instance:uQ prog 33 51 7 56:=⟨_,_,underlying33,I8.1,I8.2.1,I8.2.2.1,I8.2.2.2,rfl,rfl⟩
instance:uQ prog 34 62 23 184:=⟨_,_,underlying34,CX.1,CX.2.1,CX.2.2.1,CX.2.2.2,rfl,rfl⟩
instance:uQ prog 52 66 7 56:=⟨_,_,px,oc.1,oc.2.1,oc.2.2.1,oc.2.2.2,rfl,rfl⟩
instance:uQ prog 54 136 4 32:=⟨_,_,underlying54,CV.1,CV.2.1,CV.2.2.1,CV.2.2.2,rfl,rfl⟩
instance:uQ prog 57 68 9 88:=⟨_,_,underlying57,wY.1,wY.2.1,wY.2.2.1,wY.2.2.2,rfl,rfl⟩
instance:uQ prog 60 3 1 8:=⟨_,_,qN,nE.1,nE.2.1,nE.2.2.1,nE.2.2.2,rfl,rfl⟩
instance:uQ prog 71 175 4 32:=⟨_,_,tG,q8.1,q8.2.1,q8.2.2.1,q8.2.2.2,rfl,rfl⟩
instance:uX cG.cells:=⟨fun l=>cG.one (f:=[l]) l oU⟩
instance:uX cj.cells:=⟨fun l=>cj.one (f:=[l]) l oU⟩
instance:uX bH:=⟨fun l=>bH.one (f:=[l]) l oU⟩
instance:uX aK.cells:=⟨fun l=>aK.one (f:=[l]) l oU⟩
instance:uX T.cells:=⟨fun l=>T.one (f:=[l]) l oU⟩
instance:uX bk.cells:=⟨fun l=>bk.one (f:=[l]) l oU⟩
instance:uX a7.cells:=⟨fun l=>a7.one (f:=[l]) l oU⟩
instance:uX cR.cells:=⟨fun l=>cR.one (f:=[l]) l oU⟩
instance:uX cI.cells:=⟨fun l=>cI.one (f:=[l]) l oU⟩
end Go.Proofs.YtohjlkjhpibkmaaGreatDoor
namespace Go.LK.g
open Go Go.RowKit
def b3.bC.z{h:b3}(c:h.bC):=And.intro c.gB<|And.intro c.hm<|And.intro c.jl<|And.intro c.lh<|And.intro c.kY<|And.intro c.gk<|And.intro c.Fw<|And.intro c.mm<|And.intro c.Au<|And.intro c.CF<|And.intro c.nh<|And.intro c.jw<|And.intro c.pR<|And.intro c.VV<|And.intro c.IN c.aS
def nW.z{h:b3}{q:cu}{aJ:List Int}{bu:List a7}(c:nW h q aJ bu):=And.intro c.bf.z<|And.intro c.cd<|And.intro c.A<|And.intro c.j<|And.intro c.nH<|And.intro c.hn<|And.intro c.i'<|And.intro c.c0<|And.intro c.fG<|And.intro c.dG<|And.intro c.bz c.jq
def nW.L{h:b3}{q:cu}{aJ:List Int}{bu:List a7}(c:nW h q aJ bu):=And.intro c.n<|And.intro c.b1<|And.intro c.m'<|And.intro c.d c.bf
def l8.z{h:b3}{x:Int}{e:T}{C:List gM}{d:Nat}{a_ eX:List aK}{aH j6:List bk}{bb c0:Int}{c2:List Int}(c:l8 h x e C d a_ eX aH j6 bb c0 c2):=And.intro c.s1<|And.intro c.yN<|And.intro c.w7<|And.intro c.i' c.c0
end Go.LK.g
