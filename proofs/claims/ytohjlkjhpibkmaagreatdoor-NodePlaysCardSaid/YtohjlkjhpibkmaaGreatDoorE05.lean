/-
  Rules and plain laws that the walks use.
-/
import Derived.Test.YtohjlkjhpibkmaaGreatDoorE04
import Derived.Test.YtohjlkjhpibkmaaGreatDoorE03
import Derived.Laws.IdiomStrings
set_option linter.all false
namespace Go.LK
open Go Go.RowKit
def ur(b:Nat):List Nat→Bool
  | []=>false
  | k :: f=>bif Nat.beq b k then true else ur b f
def Ph{b:Nat}:∀ {f:List Nat},ur b f=true↔b∈f
  | []=>by simp [ur]
  | k :: f=>by
    unfold ur
    cases c:Nat.beq b k with
    | true=>simp [Br c]
    | false =>
      have ea:¬b=k:=fun r=>by subst r;simp at c
      simp [ea,Ph (f:=f)]
def w6:List Nat→Bool
  | []=>true
  | b :: f=>!ur b f&&w6 f
def Jq:∀ {f:List Nat},w6 f=true→f.Nodup
  | [],_=>List.nodup_nil
  | b :: f,c=>by
    simp only [w6,h6,uN] at c
    exact kP.2 ⟨fun ac=>by rw [Ph.2 ac] at c;exact absurd c.1 oU,Jq c.2⟩
def y2(C:List aB):List Nat→Option (List aB)
  | []=>some []
  | b :: bt=>match C[b]?,y2 C bt with
    | some ar,some ah=>some (ar :: ah)
    | _,_=>none
def Dm{C:List aB}:∀ {bt:List Nat} {ah:List aB},y2 C bt=some ah→LK.dB C bt=ah
  | [],ah,c=>by cases c;rfl
  | b :: bt,ah,c=>by
    unfold y2 at c
    split at c
    · rename_i ar l_ bI dI
      cases c
      have b6:=Dm dI
      unfold LK.dB at b6 ⊢
      rw [uL,bI,b6]
    · cases c
def uF(C:List aB)(bt:List Nat):Option (List aB):=bif w6 bt then y2 C bt else none
def pZ{C ah:List aB}{bt:List Nat}(c:uF C bt=some ah):bt.Nodup∧LK.dB C bt=ah:=by
  unfold uF at c
  cases av:w6 bt with
  | true=>rw [av] at c;exact ⟨Jq av,Dm c⟩
  | false=>rw [av] at c;cases c
def vC(bt:List Nat):Nat→List aB→List Nat
  | _,[]=>[]
  | b,_ :: C=>bif ur b bt then vC bt (b+1) C else b :: vC bt (b+1) C
def Do(C:List aB)(bt:List Nat):Option (List aB×List aB):=bif w6 (bt++vC bt 0 C) then (match y2 C bt,y2 C (vC bt 0 C) with
  | some ar,some b2=>some (ar,b2)
  | _,_=>none) else none
def tf{C ar b2:List aB}{bt:List Nat}(c:Do C bt=some (ar,b2)):(bt++vC bt 0 C).Nodup∧LK.dB C bt=ar∧LK.dB C (vC bt 0 C)=b2:=by
  unfold Do at c
  cases av:w6 (bt++vC bt 0 C) with
  | true =>
    rw [av,cond_true] at c
    split at c
    · rename_i kS ty G J
      cases c
      exact ⟨Jq av,Dm G,Dm J⟩
    · cases c
  | false=>rw [av] at c;cases c
def dn(D:bW):List Operand→Option (List Value)
  | []=>some []
  | e :: dq=>match aT D e,dn D dq with
    | some m,some ae=>some (m :: ae)
    | _,_=>none
def wH{D:bW}:∀ {dq:List Operand} {ae:List Value},dn D dq=some ae→dq.map (aT D)=ae.map some
  | [],ae,c=>by cases c;rfl
  | e :: dq,ae,c=>by
    unfold dn at c
    split at c
    · rename_i m awI G J
      cases c
      rw [kO,kO,G,wH J]
    · cases c
def qS:Value→Option (List Value)
  | .agg l=>some l.toList
  | .int d s=>some [.int d s]
  | .bool p=>some [.bool p]
  | .string H=>some [.string H]
  | .pointer n=>some [.pointer n]
  | .slice l s t=>some [.slice l s t]
  | .func z e F=>some [.func z e F]
  | .map t=>some [.map t]
  | _=>none
def Cg{aG:Value}{ae:List Value}(c:qS aG=some ae):aG.cells=ae.toArray:=by
  unfold qS at c
  split at c<;>cases c<;>first|rfl|simp [Value.cells]
def p0:List Value→Nat→Nat→Option (List Value)
  | _,0,0=>some []
  | m :: ay,0,s+1=>match p0 ay 0 s with
    | some ae=>some (m :: ae)
    | none=>none
  | _ :: ay,t+1,s=>p0 ay t s
  | [],_,_=>none
def vJ:∀ {ay:List Value} {t s:Nat} {ae:List Value},p0 ay t s=some ae→(ay.drop t).take s=ae∧ae.length=s
  | ay,0,0,ae,c=>by
    have:p0 ay 0 0=some []:=by cases ay<;>rfl
    rw [this] at c;cases c;simp
  | m :: ay,0,s+1,ae,c=>by
    rw [p0] at c
    split at c
    · rename_i dc bU
      cases c
      obtain ⟨G,J⟩:=vJ bU
      simp only [uI] at G ⊢
      rw [GM,G,e6,J]
      exact ⟨rfl,rfl⟩
    · cases c
  | m :: ay,t+1,s,ae,c=>by
    rw [p0] at c
    · have:=vJ c
      simpa using this
  | [],0,s+1,ae,c=>by simp [p0] at c
  | [],t+1,s,ae,c=>by simp [p0] at c
def rf:List Value→Nat→List Value→Option (List Value)
  | ay,0,[]=>some ay
  | _ :: ay,0,m :: ae=>match rf ay 0 ae with
    | some Z=>some (m :: Z)
    | none=>none
  | e :: ay,s+1,ae=>match rf ay s ae with
    | some Z=>some (e :: Z)
    | none=>none
  | [],_,_=>none
def Bc:∀ {ay:List Value} {t:Nat} {ae Z:List Value},rf ay t ae=some Z→ay.take t++ae++ay.drop (t+ae.length)=Z∧t+ae.length≤ay.length
  | ay,0,[],Z,c=>by
    have:rf ay 0 []=some ay:=by cases ay<;>rfl
    rw [this] at c;cases c;simp
  | e :: ay,0,m :: ae,Z,c=>by
    rw [rf] at c
    split at c
    · rename_i A a6
      cases c
      obtain ⟨G,J⟩:=Bc a6
      simp only [K5,lK,uM] at G J ⊢
      rw [e6,za,oo,G]
      exact ⟨rfl,by simp only [e6];omega⟩
    · cases c
  | e :: ay,s+1,ae,Z,c=>by
    rw [rf] at c
    split at c
    · rename_i A a6
      cases c
      obtain ⟨G,J⟩:=Bc a6
      rw [GM,show s+1+ae.length=(s+ae.length)+1 from by omega,za,oo,oo,G]
      exact ⟨rfl,by simp only [e6];omega⟩
    · cases c
  | [],0,m :: ae,Z,c=>by simp [rf] at c
  | [],s+1,ae,Z,c=>by simp [rf] at c
section
variable {i:cM} {d:List eH} {D:bW} {C:List aB} {ak:Array Oper} {bv:List Oper} {v:Op} {aX:TypeId} {y:Nat} {pos:String} {cT:Array Edge} {m X:Value} {e F aI:Operand} {Y u:TypeId} {H:Nat}
variable {bi:Type} {z:bi→List Value} {f:List bi}
def aV.br(b:Nat){L off:Nat}{ay:List Value}(bI:∀ j,(isAgg Y).run i.o j=.ok false j)(Q:aT D e=some (.pointer (some ⟨L,off,none⟩)))(ac:C[b]?=some (ai L ay u))(ba:ay[off]?=some m):aV i D C (.load Y e) aX m :=
  aV.hh Q (eZ.ai b ac) (uM off).symm (fr.one bI ba)
def aV.gb(b:Nat){L off:Nat}{ay:List Value}(bI:∀ j,(isAgg Y).run i.o j=.ok false j)(Q:aT D e=some (.pointer (some ⟨L,off,none⟩)))(ac:i.dO[b]?=some (ai L ay u))(ba:ay[off]?=some m):aV i D C (.load Y e) aX m :=
  aV.hh Q (eZ.lF b ac) (uM off).symm (fr.one bI ba)
def aV.nG(b:Nat){L off s:Nat}{ay ae:List Value}(bI:∀ j,(isAgg Y).run i.o j=.ok true j)(W:∀ j,(sizeOf Y).run i.o j=.ok s j)(Q:aT D e=some (.pointer (some ⟨L,off,none⟩)))(ac:C[b]?=some (ai L ay u))(ba:p0 ay off s=some ae):aV i D C (.load Y e) aX (.agg ae.toArray) :=
  aV.hh Q (eZ.ai b ac) (uM off).symm (fr.agg ae bI W (vJ ba).1 (vJ ba).2)
def aV.Xe(b:Nat){L off s:Nat}{ay ae:List Value}(bI:∀ j,(isAgg Y).run i.o j=.ok true j)(W:∀ j,(sizeOf Y).run i.o j=.ok s j)(Q:aT D e=some (.pointer (some ⟨L,off,none⟩)))(ac:i.dO[b]?=some (ai L ay u))(ba:p0 ay off s=some ae):aV i D C (.load Y e) aX (.agg ae.toArray) :=
  aV.hh Q (eZ.lF b ac) (uM off).symm (fr.agg ae bI W (vJ ba).1 (vJ ba).2)
def aV.le{k n:Nat}{l:bi}(bI:∀ j,(isAgg Y).run i.o j=.ok false j)(W:ax i C X H (f.map z))(ag:f[k]?=some l)(off:Nat)(Q:aT D e=some (.pointer (some ⟨jT X,n,none⟩)))(ad:n=kN X+k*H+off)(ba:(z l)[off]?=some m):aV i D C (.load Y e) aX m :=
  aV.hh Q (eZ.Ur W ag) ad (fr.one bI ba)
def aV.lX{k n s:Nat}{l:bi}{ae:List Value}(bI:∀ j,(isAgg Y).run i.o j=.ok true j)(ce:∀ j,(sizeOf Y).run i.o j=.ok s j)(W:ax i C X H (f.map z))(ag:f[k]?=some l)(off:Nat)(Q:aT D e=some (.pointer (some ⟨jT X,n,none⟩)))(ad:n=kN X+k*H+off)(ba:p0 (z l) off s=some ae):aV i D C (.load Y e) aX (.agg ae.toArray) :=
  aV.hh Q (eZ.Ur W ag) ad (fr.agg ae bI ce (vJ ba).1 (vJ ba).2)
def aV.jy{r k:Nat}{t:Int}{l:bi}(cF:∀ j,(underlying Y).run i.o j=.ok (.slice r) j)(ce:∀ j,(sizeOf r).run i.o j=.ok H j)(Q:aT D e=some X)(W:ax i C X H (f.map z))(ag:f[k]?=some l)(az:aT D F=some (.b t))(bh:t=(k:Int)) :
    aV i D C (.indexAddr Y e F) aX (.pointer (some ⟨jT X,kN X+t.toNat*H,none⟩)):=aV.WA cF ce Q W az E Lm
def w.el{k:Nat}{db:Bool}(a6:aV i D C v aX m)(bU:y7 ak i.s D k db=some true)(ao:Nat.blt y i.s=true)(c:w i ak bv d ((y,m) :: D) C):w i ak (⟨some y,v,aX,pos,cT,some (k,db)⟩ :: bv) d D C:=fun ok l j V W =>
  wpList_step fun _ dj=>by
    rw [sc bU V rfl,ee rfl]
    exact KI (a6 ok l j V W _ _ _ _) (dj _ _ (c ok _ j (V.put m ao) W))
def w.oD{k:Nat}{db:Bool}{cz:Value→List aB→Prop}(S:aq i D C v aX cz)(bU:y7 ak i.s D k db=some true)(ao:Nat.blt y i.s=true)(c:∀ m B,cz m B→w i ak bv d ((y,m) :: D) B):w i ak (⟨some y,v,aX,pos,cT,some (k,db)⟩ :: bv) d D C:=fun ok l j V W =>
  wpList_step fun _ dj=>by
    rw [sc bU V rfl,ee rfl]
    exact S ok l j V W _ _ _ _ _ _ fun m B bQ dI eY=>dj _ _ (c m B dI ok _ bQ (V.put m ao) eY)
def aj.el{fT:World→Act→Prop}{k:Nat}{db:Bool}(a6:aV i D C v aX m)(bU:y7 ak i.s D k db=some true)(ao:Nat.blt y i.s=true)(c:aj i ak fT bv ((y,m) :: D) C):aj i ak fT (⟨some y,v,aX,pos,cT,some (k,db)⟩ :: bv) D C:=fun ok l j V W =>
  wpStill_step fun _ dj=>by
    rw [sc bU V rfl,ee rfl]
    exact Sl
def aL.oD{fT:bW→List aB→Prop}{bN:List aB}{b k:Nat}{db:Bool}{cz:Value→List aB→Prop}{c6:List Nat}{bv:List (Nat×Bool)}(S:aq i D C v aX cz)(ac:ak[b]?=some ⟨some y,v,aX,pos,cT,some (k,db)⟩)(bU:y7 ak i.s D k db=some true)(ao:Nat.blt y i.s=true)
    (c:∀ m B,cz m B→gr i ak fT b c6 bv ((y,m) :: D) bN B):aL i ak fT c6 ((b,true) :: bv) D bN C :=
  ⟨_,ac,fun sA lT=>by cases lT;exact ao,fun ok l j V W=>.inl ⟨sc bU V rfl,S ok l j V W _ _ _ _ _ _ fun m B _ dI eY=>⟨m,B,rfl,c m B dI,eY⟩⟩⟩
def aq.iS{aG:Value}{ay:List Value}(ce:∀ j,(zeroValue Y).run i.o j=.ok aG j)(aS:qS aG=some ay):aq i D C (.alloc Y) aX fun m B=>∃ L,m=.n L∧B=ai L ay Y :: C:=aq.alloc ay ce (Cg aS)
def aq.pF{aG:Value}{ay:List Value}(Q:aT D e=some aG)(aS:qS aG=some ay):aq i D C (.box Y e) aX fun m B=>∃ L,m=.n L∧B=ai L ay Y :: C:=aq.box ay Q (Cg aS)
def aq.dC(b:Nat){L off l3:Nat}{ay ae kA:List Value}{aG:Value}(W:∀ j,(sizeOf Y).run i.o j=.ok l3 j)(Q:aT D e=some (.pointer (some ⟨L,off,none⟩)))(az:aT D F=some aG)(ac:C[b]?=some (ai L ay u))
    (aS:qS aG=some ae) (S:ae.length=l3) (G:(ae.all Value.oneCell')=true) (jb:rf ay off ae=some kA) :
    aq i D C (.store Y e F) aX fun _ B=>B=C.set b (ai L kA u) :=
  aq.store b kA Q az ac W (Cg aS) S G (Bc jb).1 (QW (by have:=(Bc jb).2;omega))
def aq.gy(b:Nat){L off:Nat}{ay kA:List Value}{aG:Value}(W:∀ j,(sizeOf Y).run i.o j=.ok 1 j)(G:aG.oneCell'=true)(Q:aT D e=some (.pointer (some ⟨L,off,none⟩)))(az:aT D F=some aG)(ac:C[b]?=some (ai L ay u))
    (jb:rf ay off [aG]=some kA):aq i D C (.store Y e F) aX fun _ B=>B=C.set b (ai L kA u) :=
  aq.store b kA Q az ac W (JI G) rfl (XH G) (Bc jb).1 (QW (by have:=(Bc jb).2;simpa using this))
def jC(i:cM)(C:List aB)(bt:List Nat)(en:List aB):Prop:=∀ dW,LK.dB C bt=dW→eI i C dW en
variable {bt:List Nat} {en dW ah:List aB} {ar b2:aB}
def jC.nil:jC i C bt []:=fun _ _=>eI.nil
def jC.b0(b:Nat)(ac:i.dO[b]?=some ar)(c:jC i C bt en):jC i C bt (ar :: en):=fun dW dv=>eI.b0 b ac bt dv (c dW dv)
def jC.og(b:Nat)(sK:∀ j,b2.holds j→ar.holds j∧∀ d∈ar.dT,d∈b2.dT)(ac:i.dO[b]?=some b2)(c:jC i C bt en):jC i C bt (ar :: en):=fun dW dv=>eI.at8 b ac sK bt dv (c dW dv)
def jC.eo(k:Nat)(sK:∀ j,b2.holds j→ar.holds j∧∀ d∈ar.dT,d∈b2.dT)(ag:C[k]?=some b2)(aw:ur k bt=false)(c:jC i C bt en):jC i C bt (ar :: en):=fun dW dv=>eI.eo k ag sK bt (fun bh=>by rw [Ph.2 bh] at aw;cases aw) dv (c dW dv)
def jC.fy(k:Nat)(ag:C[k]?=some ar)(aw:ur k bt=false)(c:jC i C bt en):jC i C bt (ar :: en):=jC.eo k vI ag aw c
def aq.fl{z:FuncId}{dq:List Operand}{eW:Array TypeId}{ae:List Value}{post:Value→List aB→Prop}(mI:∀ args j,(callFunc z args).run i.o j=.ok (.enter z args) j)(bA:M i.o z ae.toArray en dW post)(bt:List Nat)
    (ly:dn D dq=some ae) (aW:Do C bt=some (dW,ah)) (fM:jC i C bt en) :
    aq i D C (.call { callee:=.value (.func z),args:=dq.toArray,argTypes:=eW }) aX fun m B=>∃ de,post m de∧B=de++ah :=
  aq.call ae mI (wH ly) bA bt (vC bt 0 C) (tf aW).1 (tf aW).2.1 ah (tf aW).2.2 (fM dW (tf aW).2.1)
def aq.dA{z:FuncId}{dq:List Operand}{eW:Array TypeId}{ae fP:List Value}{post:Value→List aB→Prop}(mI:∀ args j,(callFunc z args).run i.o j=.ok (.enter z args) j)(Q:aT D e=some (.func (.func z) #[] fP.toArray))(ly:dn D dq=some ae)(bA:M i.o z (ae++fP).toArray en dW post)(bt:List Nat)
    (aW:Do C bt=some (dW,ah)) (fM:jC i C bt en) :
    aq i D C (.call { callee:=.value e,args:=dq.toArray,argTypes:=eW }) aX fun m B=>∃ de,post m de∧B=de++ah :=
  aq.Cd mI Q (wH ly) bA bt (vC bt 0 C) (tf aW).1 (tf aW).2.1 ah (tf aW).2.2 (fM dW (tf aW).2.1)
def aq.MP{z:FuncId}{dq:List Operand}{eW:Array TypeId}{first ae fP:List Value}{post:Value→List aB→Prop}(mI:∀ args j,(callFunc z args).run i.o j=.ok (.enter z args) j)(Q:aT D e=some (.func (.func z) first.toArray fP.toArray))(ly:dn D dq=some ae)(bA:M i.o z (first++ae++fP).toArray en dW post)(bt:List Nat)
    (aW:Do C bt=some (dW,ah)) (fM:jC i C bt en) :
    aq i D C (.call { callee:=.value e,args:=dq.toArray,argTypes:=eW }) aX fun m B=>∃ de,post m de∧B=de++ah :=
  aq.aho mI Q (wH ly) bA bt (vC bt 0 C) (tf aW).1 (tf aW).2.1 ah (tf aW).2.2 (fM dW (tf aW).2.1)
variable {p:Bool} {n:Prop} [Decidable n]
def Df{s:Nat}{l:Act}(V:hH s l D){A:Value}(a6:gx D y=some A):hH s l ((y,A) :: D):=⟨V.size,V.defers,fun u aG bp=>by
  rw [FM] at bp
  by_cases r:y=u
  · rw [ee r] at bp;cases bp;exact V.cC u _ (r ▸ a6)
  · rw [be r] at bp;exact V.cC u aG bp⟩
def w.fz(y:Nat)(av:gx D y=some (.bool p))(G:p=true→w i ak bv d ((y,.bool true) :: D) C)(J:p=false→w i ak bv d ((y,.bool false) :: D) C):w i ak bv d D C:=fun ok l j V W=>by
  exact abO
def w.qC(y:Nat)(av:gx D y=some (.bool (decide n)))(G:n→w i ak bv d ((y,.bool true) :: D) C)(J:¬n→w i ak bv d ((y,.bool false) :: D) C):w i ak bv d D C:=w.fz y av (fun c=>G (dp c)) (fun c=>J (fa c))
def aj.fz{fT:World→Act→Prop}(y:Nat)(av:gx D y=some (.bool p))(G:p=true→aj i ak fT bv ((y,.bool true) :: D) C)(J:p=false→aj i ak fT bv ((y,.bool false) :: D) C):aj i ak fT bv D C:=fun ok l j V W=>by
  exact abO
def aj.qC{fT:World→Act→Prop}(y:Nat)(av:gx D y=some (.bool (decide n)))(G:n→aj i ak fT bv ((y,.bool true) :: D) C)(J:¬n→aj i ak fT bv ((y,.bool false) :: D) C):aj i ak fT bv D C:=aj.fz y av (fun c=>G (dp c)) (fun c=>J (fa c))
def w.od(y:Nat)(av:gx D y=some (.bool p))(c:p=true)(ag:w i ak bv d ((y,.bool true) :: D) C):w i ak bv d D C:=fun ok l j V W=>ag ok l j (Df V (c ▸ av)) W
def w.kK(y:Nat)(av:gx D y=some (.bool p))(c:p=false)(ag:w i ak bv d ((y,.bool false) :: D) C):w i ak bv d D C:=fun ok l j V W=>ag ok l j (Df V (c ▸ av)) W
def aj.od{fT:World→Act→Prop}(y:Nat)(av:gx D y=some (.bool p))(c:p=true)(ag:aj i ak fT bv ((y,.bool true) :: D) C):aj i ak fT bv D C:=fun ok l j V W=>ag ok l j (Df V (c ▸ av)) W
def aj.kK{fT:World→Act→Prop}(y:Nat)(av:gx D y=some (.bool p))(c:p=false)(ag:aj i ak fT bv ((y,.bool false) :: D) C):aj i ak fT bv D C:=fun ok l j V W=>ag ok l j (Df V (c ▸ av)) W
def K.jt{e:Operand}{cU pK:Code}(Q:aT D e=some (.bool (decide n)))(bA:n→K i (.code cU :: d) D C)(bc:¬n→K i (.code pK :: d) D C):K i (.code (.cond e cU pK) :: d) D C:=K.cond Q (fun c=>bA (dp c)) (fun c=>bc (fa c))
def c4{b:Nat}(c:b < f.length):∃ e,f[b]?=some e:=⟨_,et c⟩
end
def Cm(D:bW):List (Nat×Operand)→Option (List (Nat×Value))
  | []=>some []
  | (b,e) :: dq=>match aT D e,Cm D dq with
    | some m,some ae=>some ((b,m) :: ae)
    | _,_=>none
def If{D:bW}:∀ {dq:List (Nat×Operand)} {ae:List (Nat×Value)},Cm D dq=some ae→dq.map (fun n=>(n.1,aT D n.2))=ae.map (fun n=>(n.1,some n.2))
  | [],ae,c=>by cases c;rfl
  | (b,e) :: dq,ae,c=>by
    unfold Cm at c
    split at c
    · rename_i m awI G J
      cases c
      rw [kO,kO,G,If J]
    · cases c
section
variable {i:cM} {D:bW} {C:List aB} {aX:TypeId} {X:Value} {e F:Operand} {Y u:TypeId} {H:Nat} {bi:Type} {z:bi→List Value} {f:List bi}
def aq.fs{s:Nat}{lD:List (Nat×Operand)}(z:bi→List Value)(f:List bi){ae:List (Nat×Value)}{eU:Value}(cF:∀ j,(underlying Y).run i.o j=.ok (.slice u) j)(W:∀ j,(sizeOf u).run i.o j=.ok H j)(ce:∀ j,(zeroValue u).run i.o j=.ok eU j)
    (ad:Cm D lD=some ae) (aw:Nat.ble (s*H) 16777216=true) (lV:Nat.blt 0 (s*H)=true)
    (bc:Instr.fill (fun b=>some (b*H,H)) ((Array.range (s*H)).map (eU.cells[·%eU.cells.size]!)) ae=some (f.map z).flatten.toArray) (S:(f.map z).length=s) (h9:((f.map z).all (fun r=>r.length == H))=true) :
    aq i D C (.buildSlice Y s lD.toArray) aX fun m B=>B=row m u H (f.map z) :: C:=aq.TK z f ae cF W ce (If ad) aw lV bc S h9
def aq.gg(b:Nat){q:Value}{hY:List bi}{r:TypeId}{jm:TypeInfo}{eU:Value}{bytes:Nat}(cF:i.o.underlying Y=some (.slice u))(q3:i.o.info? u=some jm∧jm.zero=some eU∧jm.size=H∧jm.bytes=bytes)(FE:eU.cells.size=H)(nh:Nat.blt 0 H=true)
    (Q:aT D e=some X) (ac:C[b]?=some (row X u H (f.map z))) (az:aT D F=some q) (W:ax i C q H (hY.map z)) (G:∀ l∈hY,(z l).all Value.oneCell'=true)
    (u':f.length+hY.length≤9223372036854775807) (av:(f.length+hY.length)*bytes≤140737488355328) :
    aq i D C (.call { callee:=.builtin .append,args:=#[e,F],argTypes:=#[Y,Y] }) r fun m B=>B=C.set b (row m u H ((f++hY).map z)) :=
  aq.Tt b cF q3.1 q3.2.1 q3.2.2.1 q3.2.2.2 FE nh Q ac az W G u' av
end
def K.fg{i:cM}{d:List eH}{D:bW}{C:List aB}(u H:Nat)(bZ:List (List Value))(aC:bZ=[])(c:K i d D (row (.slice none 0 0) u H bZ :: C)):K i d D C:=K.lC u H (aC ▸ c)
def w.fg{i:cM}{d:List eH}{D:bW}{C:List aB}{ak:Array Oper}{bv:List Oper}(u H:Nat)(bZ:List (List Value))(aC:bZ=[])(c:w i ak bv d D (row (.slice none 0 0) u H bZ :: C)):w i ak bv d D C:=w.lC u H (aC ▸ c)
def K.apQ{i:cM}{d:List eH}{D:bW}{C:List aB}(eu:List aB)(aC:eu=[])(c:K i d D (c1 eu :: C)):K i d D C:=K.hv (by subst aC;exact a'.new) c
def a'.bz{C B:List aB}(bt:List Nat)(c:uF C bt=some B):a' C B:=a'.dB bt (pZ c).1 (pZ c).2
def K.ef{i:cM}{d:List eH}{D:bW}{C bN:List aB}{id:Nat}{f:List Oper}(fo:List (Nat×Bool))(bt:List Nat)(bh:i.o.follows .mixedOrders=true)(dP:w4 f.toArray fo=true)(dv:uF C bt=some bN)
    (c:aL i f.toArray (fun du B=>K i d du B) [] fo D bN C):K i (.code (.region id f.toArray true) :: d) D C:=K.aiE fo bt bN bh dP (pZ dv).1 (pZ dv).2 c
def ar.fH{i:cM}{d:List eH}{D:bW}{C bN:List aB}{f:List Oper}(fo:List (Nat×Bool))(bt:List Nat)(dP:w4 f.toArray fo=true)(dv:uF C bt=some bN)
    (c:aL i f.toArray (fun du B=>K i d du B) [] fo D bN C):ar i f d D C:=ar.apE fo bt bN dP (pZ dv).1 (pZ dv).2 c
def gr.kV{i:cM}{D:bW}{bN hs B:List aB}{ak:Array Oper}{fT:bW→List aB→Prop}{b:Nat}{c6:List Nat}{bv:List (Nat×Bool)}(bt ec:List Nat)(dv:uF B bt=some hs)(dj:uF hs ec=some bN)(c:aL i ak fT (b :: c6) bv D hs B):gr i ak fT b c6 bv D bN B :=
  gr.go bt ec hs (pZ dv).1 (pZ dv).2 (pZ dj).1 (pZ dj).2 c
def gr.iS{i:cM}{D:bW}{bN hs B:List aB}{ak:Array Oper}{fT:bW→List aB→Prop}{b:Nat}{c6:List Nat}{bv:List (Nat×Bool)}(bt:List Nat)(dv:uF B bt=some hs)(bU:zP ak b c6=true)(c:aL i ak fT (b :: c6) bv D hs B):gr i ak fT b c6 bv D bN B :=
  gr.all bt hs (pZ dv).1 (pZ dv).2 bU c
section
variable {j:World} {bL:List Nat} {post:Value→List aB→Prop} {o:Program} {fn:Func} {s:Nat} {dO:List aB} {ho:List ResultVar} {D:bW} {C B:List aB} {d:List eH}
def K.lE(ae:List Value)(bt:List Nat)(cs:fn.results=ho.toArray)(ba:zB ⟨o,fn,s,j,bL,dO,pJ j bL post⟩ D C ho ae)(dv:uF C bt=some B)(c:post (ed ae) B):K ⟨o,fn,s,j,bL,dO,pJ j bL post⟩ (.code .ret :: d) D C :=
  K.ret (Fin.ret cs ae ba bt (pZ dv).1 B (pZ dv).2 c)
def K.l2{u:Nat}{m:Value}(bt:List Nat)(cs:fn.results=#[.tmp u])(ba:gx D u=some m)(dv:uF C bt=some B)(c:post (ed [m]) B):K ⟨o,fn,s,j,bL,dO,pJ j bL post⟩ (.code .ret :: d) D C :=
  K.lE (ho:=[.tmp u]) [m] bt cs ⟨ba,trivial⟩ dv c
def K.uz{u:Nat}{m:Value}(cs:fn.results=#[.tmp u])(ba:gx D u=some m)(c:post (ed [m]) []):K ⟨o,fn,s,j,bL,dO,pJ j bL post⟩ (.code .ret :: d) D C:=K.l2 [] cs ba rfl c
def K.H_(ae:List Value)(bt:List Nat)(cs:fn.results=ho.toArray)(ba:zB ⟨o,fn,s,j,bL,dO,pJ j bL post⟩ D C ho ae)(dv:uF C bt=some B)(c:post (ed ae) B):K ⟨o,fn,s,j,bL,dO,pJ j bL post⟩ [] D C :=
  K.done (Fin.ret cs ae ba bt (pZ dv).1 B (pZ dv).2 c)
def M.aM{z:FuncId}{body:Code}{args:List Value}(bc:o.funcs[z]?=some fn)(av:fn.body=some body)(aw:fn.ntmps=s)(h9:Nat.ble args.length s=true)
    (c:∀ j,K { o:=o,fn:=fn,s:=s,an:=j,bL:=ei C,dO:=dO,ah:=pJ j (ei C) post } [.code body] (wG 0 args) C):M o z args.toArray dO C post:=M.enter s bc av aw h9 c
end
def A4(D:bW):List Nat→Option bW
  | []=>some []
  | u :: eW=>match gx D u,A4 D eW with
    | some m,some o=>some ((u,m) :: o)
    | _,_=>none
def F0{D:bW}:∀ {eW:List Nat} {o:bW},A4 D eW=some o→lu o D
  | [],o,c=>by cases c;trivial
  | u :: eW,o,c=>by
    unfold A4 at c
    split at c
    · rename_i m axR G J
      cases c
      exact ⟨G,F0 J⟩
    · cases c
def lu.x1{D:bW}:∀ {ar b2:bW},lu ar D→lu b2 D→lu (ar++b2) D
  | [],_,_,c=>c
  | (_,_) :: ar,_,⟨G,J⟩,c=>⟨G,lu.x1 (ar:=ar) J c⟩
section
variable {i:cM} {d:List eH} {D o:bW} {C ah:List aB}
def Ze{C:List aB}{bt ec:List Nat}:LK.dB C (bt++ec)=LK.dB C bt++LK.dB C ec:=by simp [LK.dB]
def Kk(C:List aB)(bt ec:List Nat):Option (List aB×List aB):=bif w6 (bt++ec) then (match y2 C bt,y2 C ec with
  | some ar,some b2=>some (ar,b2)
  | _,_=>none) else none
def Kl{C ar b2:List aB}{bt ec:List Nat}(c:Kk C bt ec=some (ar,b2)):(bt++ec).Nodup∧LK.dB C bt=ar∧LK.dB C ec=b2:=by
  unfold Kk at c
  cases av:w6 (bt++ec) with
  | true =>
    rw [av,cond_true] at c
    split at c
    · rename_i kS ty G J
      cases c
      exact ⟨Jq av,Dm G,Dm J⟩
    · cases c
  | false=>rw [av] at c;cases c
def K.gw{bo:Type}(dH:bo→Prop)(gY:bo→bW)(cJ:bo→List aB)(iO:bo→Nat){e:Code}(bK:bo)(eW bt ec:List Nat)(bB:dH bK)(ie:lu (gY bK) D)(rN:A4 D eW=some o)(dv:Kk C bt ec=some (cJ bK,ah))
    (round:∀ F,dH F→K i (.code e :: .gW (AQ i dH (fun F=>gY F++o) (fun F=>cJ F++ah) iO (iO F)) :: d) (gY F++o) (cJ F++ah)):K i (.code (.loop e) :: d) D C :=
  K.loop dH (fun F=>gY F++o) (fun F=>cJ F++ah) iO bK bB (lu.x1 ie (F0 rN)) (bt++ec) (Kl dv).1 abb round
def K.ms{bo:Type}{dH:bo→Prop}{gY:bo→bW}{cJ:bo→List aB}{iO:bo→Nat}{t:Nat}(F:bo)(eW bt ec:List Nat)(kI:dH F)(bh:iO F < t)(ie:lu (gY F) D)(rN:A4 D eW=some o)(dv:Kk C bt ec=some (cJ F,ah)) :
    K i (.gW (AQ i dH (fun F=>gY F++o) (fun F=>cJ F++ah) iO t) :: d) D C:=K.gW F kI bh (lu.x1 ie (F0 rN)) (bt++ec) (Kl dv).1 abb
def hM{fE:IntKind}{l p:Int}(c:l=p):some (Value.int fE l)=some (Value.int fE p):=by rw [c]
end
section
variable {i:cM} {D du:bW} {C bN:List aB} {ak:Array Oper}
def HV(o:Program)[jh o](s:Nat)(ak:Array Oper):Nat→List Oper→bW→Option (List Oper×bW)
  | 0,f,D=>some (f,D)
  | z+1,v :: f,D=>match qx o s ak D v with
    | some du=>HV o s ak z f du
    | none=>none
  | _+1,[],_=>none
def XL[jh i.o]{fT:World→Act→Prop}{v:Oper}{f:List Oper}(c:qx i.o i.s ak D v=some du)(ag:aj i ak fT f du C):aj i ak fT (v :: f) D C:=by
  unfold qx at c
  split at c
  · rename_i y v _ _ _
    cases ao:Nat.blt y i.s with
    | false=>rw [ao] at c;cases c
    | true =>
      rw [ao,cond_true] at c
      split at c
      · rename_i m ba;cases c;exact aj.n (w' ba) ao ag
      · cases c
  · rename_i y v _ _ _ k db
    cases ao:Nat.blt y i.s with
    | false=>rw [ao] at c;cases c
    | true =>
      rw [ao,cond_true] at c
      split at c
      · rename_i bU
        split at c
        · rename_i m ba;cases c
          exact fun ok l j V W=>wpStill_step fun _ dj=>by
            rw [sc bU V rfl,ee rfl]
            exact Zu (w' ba l j V _ _ _ _) (dj _ (ag ok _ j (V.put m ao) W))
        · cases c
      · rename_i bU
        cases c
        exact fun ok l j V W=>wpStill_step fun _ dj=>by
          rw [sc bU V rfl,be oU]
          exact dj _ (ag ok _ j (V.put undef ao) W)
      · cases c
  · cases c
def Tq[jh i.o]{fT:World→Act→Prop}:∀ {z:Nat} {f hY:List Oper} {D du:bW},HV i.o i.s ak z f D=some (hY,du)→aj i ak fT hY du C→aj i ak fT f D C
  | 0,f,_,D,_,c,ag=>by cases c;exact ag
  | z+1,v :: f,_,D,_,c,ag=>by
    unfold HV at c
    split at c
    · rename_i W;exact XL W (Tq c ag)
    · cases c
  | z+1,[],_,D,_,c,ag=>by cases c
def aj.Z[jh i.o]{fT:World→Act→Prop}{f hY:List Oper}(z:Nat)(c:HV i.o i.s ak z f D=some (hY,du))(ag:aj i ak fT hY du C):aj i ak fT f D C:=Tq c ag
def HU(o:Program)[jh o](s:Nat)(ak:Array Oper):Nat→List Nat→List (Nat×Bool)→bW→Option (List Nat×List (Nat×Bool)×bW)
  | 0,c6,f,D=>some (c6,f,D)
  | z+1,c6,(b,false) :: f,D=>match ak[b]? with
    | some v=>(match qx o s ak D v with
      | some du=>HU o s ak z (b :: c6) f du
      | none=>none)
    | none=>none
  | _+1,_,_,_=>none
def XK[jh i.o]{fT:bW→List aB→Prop}{b:Nat}{c6:List Nat}{f:List (Nat×Bool)}{v:Oper}(ac:ak[b]?=some v)(c:qx i.o i.s ak D v=some du)(ag:aL i ak fT (b :: c6) f du bN C):aL i ak fT c6 ((b,false) :: f) D bN C:=by
  unfold qx at c
  split at c
  · rename_i y v _ _ _
    cases ao:Nat.blt y i.s with
    | false=>rw [ao] at c;cases c
    | true =>
      rw [ao,cond_true] at c
      split at c
      · rename_i m ba;cases c;exact aL.n ac (w' ba) ao ag
      · cases c
  · rename_i y v _ _ _ k db
    cases ao:Nat.blt y i.s with
    | false=>rw [ao] at c;cases c
    | true =>
      rw [ao,cond_true] at c
      split at c
      · rename_i bU
        split at c
        · rename_i m ba;cases c
          exact ⟨_,y,m,ac,rfl,ao,fun ok l j V W=>.inl ⟨sc bU V rfl,.inl (w' ba l j V _ _ _ _)⟩,(fun au=>absurd au DQ),ag⟩
        · cases c
      · rename_i bU
        cases c
        exact ⟨_,y,undef,ac,rfl,ao,fun _ _ _ V _=>.inr ⟨sc bU V rfl,rfl⟩,(fun au=>absurd au DQ),ag⟩
      · cases c
  · cases c
def Tp[jh i.o]{fT:bW→List aB→Prop}:∀ {z:Nat} {c6 Gl:List Nat} {f hY:List (Nat×Bool)} {D du:bW},HU i.o i.s ak z c6 f D=some (Gl,hY,du)→aL i ak fT Gl hY du bN C→aL i ak fT c6 f D bN C
  | 0,c6,_,f,_,D,_,c,ag=>by cases c;exact ag
  | z+1,c6,_,(b,false) :: f,_,D,_,c,ag=>by
    unfold HU at c
    split at c
    · rename_i v ac
      split at c
      · rename_i W;exact XK ac W (Tp c ag)
      · cases c
    · cases c
  | z+1,c6,_,(b,true) :: f,_,D,_,c,ag=>by cases c
  | z+1,c6,_,[],_,D,_,c,ag=>by cases c
def aL.Z[jh i.o]{fT:bW→List aB→Prop}{c6 Gl:List Nat}{f hY:List (Nat×Bool)}(z:Nat)(c:HU i.o i.s ak z c6 f D=some (Gl,hY,du))(ag:aL i ak fT Gl hY du bN C):aL i ak fT c6 f D bN C:=Tp c ag
end
end Go.LK
namespace Go.LK
open Go Go.RowKit
def Eu(o:Program)(e:Code)(cz:Exit→Act→World→Prop)(l:Act)(j:World):Prop :=
  ∀ (p:Go.Frame) (oK:List Item) (ay:List Go.Frame),∃ r jE bQ,cz r jE bQ∧Arrives o (lone (p.at l (.code e :: .inLoop e :: oK)) ay j) p oK ay r jE bQ
def ZH{o:Program}{e:Code}{cz:Exit→Act→World→Prop}{l:Act}{j:World}(c:Code.wp o e (Exit.then (Eu o e cz) cz) l j):Eu o e cz l j:=fun p oK ay=>by
  obtain ⟨r,n4,oj,a6,lS⟩:=c p (.inLoop e :: oK) ay
  cases r with
  | normal =>
    obtain ⟨Ih,HZ,KK,I0,IJ⟩:=a6 p oK ay
    exact acl
  | exit id=>exact ⟨_,n4,oj,a6,.pass (x:=.inLoop e) rfl (fun _ _=>.inl oU) lS⟩
  | goto f=>exact ⟨_,n4,oj,a6,.pass (x:=.inLoop e) rfl (fun _ _=>.inl oU) lS⟩
  | ret=>exact ⟨_,n4,oj,a6,.pass (x:=.inLoop e) rfl (fun _ _=>.inl oU) lS⟩
  | panic wE=>exact ⟨_,n4,oj,a6,.pass (x:=.inLoop e) rfl (fun _ _=>.inl oU) lS⟩
  | outgrown=>exact ⟨_,n4,oj,a6,.pass (x:=.inLoop e) rfl (fun _ _=>.inl oU) lS⟩
section
variable {i:cM} {d:List eH} {D:bW} {C:List aB} {e:Code}
def K.lH(c:K i (.code e :: .gW (Eu i.o e (i.cz d)) :: d) D C):K i (.code (.loop e) :: d) D C:=fun ok l j V W p oK ay=>by
  obtain ⟨r,jE,bQ,a6,lS⟩:=ZH (c ok l j V W) p oK ay
  exact acX
def K.again(c:K i (.code e :: .gW (Eu i.o e (i.cz d)) :: d) D C):K i (.gW (Eu i.o e (i.cz d)) :: d) D C:=fun ok l j V W=>ZH (c ok l j V W)
end
end Go.LK
namespace Go.LK
open Go Go.RowKit
structure T where
  id:Int
  am:Int
  cg:Int
  ck:Int
  eN:Int
  dm:Int
  seq:Int
def T.cells(e:T):List Value:=[e.id,e.am,e.cg,e.ck,e.eN,e.dm,e.seq]
instance:Coe T Go.Value:=⟨fun e=>.agg #[e.id,e.am,e.cg,e.ck,e.eN,e.dm,e.seq]⟩
instance:Coe T (List Go.Value):=⟨fun e=>[e.id,e.am,e.cg,e.ck,e.eN,e.dm,e.seq]⟩
def T.one{f:List T}:∀ l∈f,(T.cells l).all Value.oneCell'=true:=fun _ _=>rfl
def T.zero:T:=⟨0,0,0,0,0,0,0⟩
end Go.LK
namespace Go.LK.g
open Go Go.LK
def fv(l p:Int):Int:=ab.cc (ab.cc l 2147483647+ab.cc p 2147483647) 2147483647
def later(l p:Int):Int:=ab.h1 (ab.h1 l+ab.h1 p)
def uo{s t:Int}(bB:0≤s)(G:s≤t):ab.cc s t=s:=by
  unfold ab.cc;(repeat' split)<;>omega
def qk(e F:Int):Int:=if e < F then -1 else if F < e then 1 else 0
def first:List Int→Int
  | []=>0
  | s :: f=>if s=0 then first f else s
def ai0{f:List Int}{d:Nat}{s:Int}(c:first f=first (f.drop d))(aw:f[d]?=some s)(bB:s=0):first f=first (f.drop (d+1)):=by
  obtain ⟨R,rfl⟩:=dD.1 aw
  rw [c,qF R,first,ee bB]
def aiZ{f:List Int}{d:Nat}{s:Int}(c:first f=first (f.drop d))(aw:f[d]?=some s)(bB:¬s=0):first f=s:=by
  obtain ⟨R,rfl⟩:=dD.1 aw
  rw [c,qF R,first,be bB]
def aiY{f:List Int}{d:Nat}(c:first f=first (f.drop d))(R:¬d < f.length):first f=0:=by
  rw [c,Dt E];rfl
def ja(l p:T):Int:=first [qk l.ck p.ck,qk l.seq p.seq,qk l.id p.id]
def kz(l p:T):Bool:=decide (ja l p < 0)
def iL(l p:T):Bool:=decide (0 < first [qk l.am p.am,ja l p])
def axc{l p:T}(c:iL l p=false):l.am≤p.am:=by
  unfold iL qk first at c
  by_cases G:l.am < p.am
  · omega
  · by_cases J:p.am < l.am
    · simp [G,J] at c
    · omega
def ew(e:T)(x:Int):Int:=if e.ck≤x then 3 else if e.eN < ab.left x e.dm then 4 else 0
end Go.LK.g
namespace Go.LK.g
open Go Go.LK
def hr(u:List T)(t:List (Int×Int)):Prop:=∀ id k,cx t id=some k↔∃ (d:Nat) (e:T),u[d]?=some e∧e.id=id∧k=(d:Int)
section
variable {u:List T} {t:List (Int×Int)} {b d:Nat} {l p e:T} {id k:Int}
def hr.nil:hr [] []:=fun id k=>⟨fun c=>by simp [cx] at c,fun ⟨d,e,c,_⟩=>by simp at c⟩
def hr.vc(c:hr u t)(V:u[b]?=some l):cx t l.id=some (b:Int):=(c l.id b).2 ⟨b,l,V,rfl,rfl⟩
def hr.inj(c:hr u t)(V:u[b]?=some l)(av:u[d]?=some p)(aC:l.id=p.id):b=d:=by
  have G:=c.vc V;have J:=c.vc av
  rw [aC,J] at G
  have:=p8 G;omega
def hr.kL(c:hr u t)(bq:cx t id=some k):∃ (d:Nat) (e:T),u[d]?=some e∧e.id=id∧k=(d:Int):=(c id k).1 bq
def hr.r5(c:hr u t)(bq:cx t id=none):∀ e∈u,e.id≠id:=fun e Q aC=>by
  obtain ⟨d,R⟩:=p9 Q
  have:=c.vc R
  rw [aC,bq] at this;cases this
def hr.swap(c:hr u t)(V:u[b]?=some l)(av:u[d]?=some p):hr ((u.set b p).set d l) (e' (e' t p.id b) l.id d):=by
  have rT:b < u.length:=(dD.1 V).1
  have wT:d < u.length:=(dD.1 av).1
  intro id k
  rw [lQ,lQ]
  by_cases dQ:l.id=id
  · rw [ee dQ]
    constructor
    · intro ag;cases ag;exact ⟨d,l,by simp [wT],dQ,rfl⟩
    · rintro ⟨cD,e,Q,gj,rfl⟩
      rw [qH,qH] at Q
      by_cases G:d=cD
      · subst G;rfl
      · rw [be G] at Q
        by_cases J:b=cD
        · subst J
          rw [ee rfl,ee rT] at Q;cases Q
          have:=c.inj V av (by rw [dQ,gj]);omega
        · rw [be J] at Q
          have:=c.inj V Q (by rw [dQ,gj]);omega
  · rw [be dQ]
    by_cases bP:p.id=id
    · rw [ee bP]
      have ea:b≠d:=fun r=>by subst r;rw [V] at av;cases av;exact dQ bP
      constructor
      · intro ag;cases ag;exact ⟨b,p,by rw [qH,be (K_ ea),qH,ee rfl,ee rT],bP,rfl⟩
      · rintro ⟨cD,e,Q,gj,rfl⟩
        rw [qH,qH] at Q
        by_cases G:d=cD
        · subst G
          rw [ee rfl,ee (by simpa using wT)] at Q;cases Q
          exact absurd gj dQ
        · rw [be G] at Q
          by_cases J:b=cD
          · subst J;rfl
          · rw [be J] at Q
            have:=c.inj av Q (by rw [bP,gj]);omega
    · rw [be bP,c id k]
      constructor
      · rintro ⟨cD,e,Q,gj,rfl⟩
        refine ⟨cD,e,?_,gj,rfl⟩
        rw [qH,qH]
        have G:d≠cD:=fun r=>by subst r;rw [av] at Q;cases Q;exact bP gj
        have J:b≠cD:=fun r=>by subst r;rw [V] at Q;cases Q;exact dQ gj
        rw [be G,be J];exact Q
      · rintro ⟨cD,e,Q,gj,rfl⟩
        rw [qH,qH] at Q
        by_cases G:d=cD
        · subst G
          rw [ee rfl,ee (by simpa using wT)] at Q;cases Q
          exact absurd gj dQ
        · rw [be G] at Q
          by_cases J:b=cD
          · subst J
            rw [ee rfl,ee rT] at Q;cases Q
            exact absurd gj bP
          · rw [be J] at Q
            exact ⟨cD,e,Q,gj,rfl⟩
def y3(V:u[b]?=some l)(av:u[d]?=some p):((u.set b p).set d l).Perm u:=by
  obtain ⟨ac,rfl⟩:=dD.1 V
  obtain ⟨R,rfl⟩:=dD.1 av
  exact List.set_set_perm ac R
def avY(V:u[b]?=some l)(av:u[d]?=some p):∀ e,u[b]?=some e→((u.set b p).set d l)[d]?=some e:=fun e Q=>by
  rw [V] at Q;cases Q
  have wT:d < u.length:=(dD.1 av).1
  simp [wT]
def hr.EN(c:hr u t)(W:(cx t id).isSome=true):∃ (d:Nat) (e:T),u[d]?=some e∧e.id=id∧(cx t id).getD 0=(d:Int)∧d < u.length:=by
  obtain ⟨k,ag⟩:=uK.1 W
  obtain ⟨d,e,Q,gj,rfl⟩:=c.kL ag
  exact ⟨d,e,Q,gj,by rw [ag];rfl,(dD.1 Q).1⟩
def hr.yP(c:hr u t):(cx t id).isSome=false↔∀ e∈u,e.id≠id:=by
  constructor
  · intro aw
    exact c.r5 (by cases bq:cx t id with|none=>rfl|some _=>rw [bq] at aw;cases aw)
  · intro aw
    cases bq:cx t id with
    | none=>rfl
    | some k =>
      obtain ⟨d,e,Q,gj,_⟩:=c.kL bq
      exact absurd gj (aw e (eF Q))
def hr.push(c:hr u t)(aw:cx t e.id=none):hr (u++[e]) (e' t e.id u.length):=by
  intro id k
  rw [lQ]
  by_cases dQ:e.id=id
  · rw [ee dQ]
    constructor
    · intro ag;cases ag;exact ⟨u.length,e,by simp,dQ,rfl⟩
    · rintro ⟨cD,F,az,gj,rfl⟩
      rcases Nat.lt_trichotomy cD u.length with G|G|G
      · rw [to G] at az
        exact absurd (gj.trans dQ.symm) (c.r5 aw F (eF az))
      · rw [G]
      · rw [vU v1] at az;cases az
  · rw [be dQ,c id k]
    constructor
    · rintro ⟨cD,F,az,gj,rfl⟩
      exact ⟨cD,F,by rw [to (dD.1 az).1];exact az,gj,rfl⟩
    · rintro ⟨cD,F,az,gj,rfl⟩
      rcases Nat.lt_trichotomy cD u.length with G|G|G
      · rw [to G] at az;exact ⟨cD,F,az,gj,rfl⟩
      · subst G;simp at az;subst az;exact absurd gj dQ
      · rw [vU v1] at az;cases az
def Zi:(u++[e]).set u.length e=u++[e]:=by
  rw [aaz _ _ (oQ _)];simp
def anI(aw:(cx t id).isSome=false):cx t id=none:=by
  cases bq:cx t id with
  | none=>rfl
  | some _=>rw [bq] at aw;cases aw
def hr.asI(c:hr u t)(aw:(cx t e.id).isSome=false){b:Int}(ac:b=(((u++[e]).length:Nat):Int)-1):hr ((u++[e]).set b.toNat e) (e' t e.id b)∧((u++[e]).set b.toNat e).Perm (e :: u)∧((u++[e]).set b.toNat e).length=u.length+1:=by
  have G:b=(u.length:Int):=by rw [ac];simp
  subst G
  rw [show ((u.length:Nat):Int).toNat=u.length from by omega,Zi]
  exact ⟨c.push (anI aw),GF _ _,by simp⟩
def hr.nI(c:hr u t)(Q:u[u.length-1]?=some e):hr (u.take (u.length-1)) (e3 t e.id):=by
  have S:u.length-1 < u.length:=(dD.1 Q).1
  intro id k
  rw [sG]
  by_cases dQ:e.id=id
  · rw [ee dQ]
    constructor
    · intro c;cases c
    · rintro ⟨cD,F,az,gj,rfl⟩
      rw [k6] at az
      by_cases G:cD < u.length-1
      · rw [ee G] at az
        have:=c.inj Q az (by rw [dQ,gj]);omega
      · rw [be G] at az;cases az
  · rw [be dQ,c id k]
    constructor
    · rintro ⟨cD,F,az,gj,rfl⟩
      have G:cD < u.length:=(dD.1 az).1
      have J:cD≠u.length-1:=fun r=>by subst r;rw [Q] at az;cases az;exact dQ gj
      exact ⟨cD,F,by rw [k6,ee E];exact az,gj,rfl⟩
    · rintro ⟨cD,F,az,gj,rfl⟩
      rw [k6] at az
      by_cases G:cD < u.length-1
      · rw [ee G] at az;exact ⟨cD,F,az,gj,rfl⟩
      · rw [be G] at az;cases az
def asC(Q:u[u.length-1]?=some e):u.Perm (e :: u.take (u.length-1)):=by
  have S:u.length-1 < u.length:=(dD.1 Q).1
  have G:u=u.take (u.length-1)++[e]:=by
    have J:=hx (i:=u.length-1) (l:=u)
    rw [Q,show u.length-1+1=u.length from by omega,DG] at J
    exact J
  exact (G ▸ uJ _:u.Perm (u.take (u.length-1)++[e])).trans (GF _ _)
def hr.KB(c:hr u t){F:T}(Q:e∈u)(az:F∈u)(aC:e.id=F.id):e=F:=by
  obtain ⟨b,ac⟩:=p9 Q
  obtain ⟨d,R⟩:=p9 az
  have:=c.inj ac R aC
  subst this;rw [ac] at R;cases R;rfl
def hr.gu(c:hr u t)(Q:e∈u):(cx t e.id).isSome=true:=by
  obtain ⟨b,ac⟩:=p9 Q
  rw [c.vc ac];rfl
def BT(f:List T)(b d:Nat):Prop:=∀ (k:Nat) (F e:T),k < b→f[k]?=some F→f[d]?=some e→F.am≤e.am
def axd{l p:T}(c:iL l p=true):p.am≤l.am:=by
  unfold iL qk first at c
  by_cases G:l.am < p.am
  · simp [G] at c
  · omega
def BT.take{f:List T}{aI:T}(c:BT f b d)(R:f[d]?=some e)(ac:f[b]?=some aI)(bU:iL aI e=true):BT f (b+1) b:=fun k F Bo ag az uk=>by
  rw [ac] at uk;cases uk
  rcases mR k b with G|G
  · have J:=c k F e G az R;have aA:=axd bU;omega
  · have:k=b:=by omega
    subst this;rw [ac] at az;cases az;omega
def BT.cc{f:List T}{aI:T}(c:BT f b d)(R:f[d]?=some e)(ac:f[b]?=some aI)(bU:iL aI e=false):BT f (b+1) d:=fun k F Bo ag az uk=>by
  rw [R] at uk;cases uk
  rcases mR k b with G|G
  · exact c k F e G az R
  · have:k=b:=by omega
    subst this;rw [ac] at az;cases az;exact axc bU
def apZ{dR:List T}{aI:T}{dG:List (Int×Int)}(bh:hr u t)(sR:hr dR dG)(aw:(cx t e.id).isSome=false)(G:u.Perm (aI :: dR)):(cx dG e.id).isSome=false :=
  sR.yP.2 fun F az=>bh.yP.1 aw F (G.mem_iff.2 (by simp [az]))
def k9(v:List T)(x:Int)(d:Nat):List T:=(v.take d).filter fun e=>decide (ew e x=0)
def np(v:List T)(x:Int)(d:Nat):List T:=(v.take d).filter fun e=>!decide (ew e x=0)
def W2{v:List T}{x:Int}(Q:v[d]?=some e)(c:ew e x=0):k9 v x (d+1)=k9 v x d++[e]∧np v x (d+1)=np v x d:=by
  exact acm
def U3{v:List T}{x:Int}(Q:v[d]?=some e)(c:¬ew e x=0):k9 v x (d+1)=k9 v x d∧np v x (d+1)=np v x d++[e]:=by
  exact acm
def H'{v:List T}(Q:v[d]?=some e):v.drop d=e :: v.drop (d+1):=by
  obtain ⟨R,rfl⟩:=dD.1 Q
  rw [qF R]
def av1{v dR tg:List T}{r:T}{x:Int}(ad:dR.Perm (k9 v x d++v.drop d))(aC:v[d]?=some r)(aw:¬ew r x=0)(G:dR.Perm (r :: tg)):tg.Perm (k9 v x (d+1)++v.drop (d+1)):=by
  rw [(U3 aC aw).1]
  rw [H' aC] at ad
  exact ((G.symm.trans ad).trans tq).cons_inv
def av4{v dR:List T}{r:T}{x:Int}(ad:dR.Perm (k9 v x d++v.drop d))(aC:v[d]?=some r)(aw:ew r x=0):dR.Perm (k9 v x (d+1)++v.drop (d+1)):=by
  rw [(W2 aC aw).1,ia]
  rw [H' aC] at ad
  exact ad
def av3{v dR:List T}{r:T}{x:Int}(ad:dR.Perm (k9 v x d++v.drop d))(aC:v[d]?=some r):r∈dR:=ad.mem_iff.2 (by rw [H' aC];simp)
def W1{v:List T}{x:Int}:(k9 v x d).length≤d:=iZ (kv _ _) vX
def U2{v:List T}{x:Int}:(np v x d).length≤d:=iZ (kv _ _) vX
def av2{v dR:List T}{x:Int}(ad:dR.Perm (k9 v x d++v.drop d))(R:d≤v.length):dR.length≤v.length:=by
  have G:=ad.length_eq;have J:=W1 (v:=v) (x:=x) (d:=d)
  rw [eh,hw] at G
  omega
def av5{v dR:List T}{x:Int}(ad:v.Perm dR):dR.Perm (k9 v x 0++v.drop 0):=by simpa [k9] using ad.symm
def av0{v dR:List T}{x:Int}(ad:dR.Perm (k9 v x d++v.drop d))(R:¬d < v.length)(J:d≤v.length):dR.Perm (k9 v x v.length):=by
  have:d=v.length:=by omega
  subst this;simpa using ad
end
end Go.LK.g
namespace Go.LK
open Go Go.RowKit
section
variable {i:cM} {D:bW} {Y aX:TypeId} {e F:Operand}
def U.Kn{d QI:IntKind}{t:Int}(R:Nat.ble 1 d.bits=true)(Q:aT D e=some (.int d t))(az:aT D F=some (.int QI 1)){Gw:TypeId}:U i D (.binOp .shr Y e F Gw) aX (.int d (t.fdiv 2)):=fun l j V _ _ _ _=>by
  simp only [execOp,V.aT Q,V.aT az]
  simp [eqGuard,binOp,Op.shift]
  rw [DI (kc R)];rfl
def yk{s:Int}(bB:0≤s)(G:s≤4611686018427387904):IntKind.i64.wrap ((IntKind.u64.wrap s).fdiv 2)=s / 2:=by
  have J:IntKind.u64.wrap s=s:=by
    exact acD
  rw [J,aap _ E]
  exact acD
def x3{bi:Type}{z:bi→Value}{ao:List Value}{f:List bi}{b s:Nat}{e:bi}(aw:ao.length=s)(c:f[b]?=some e):(ao++f.map z)[s+b]?=some (z e):=by
  subst aw
  rw [Du E,show ao.length+b-ao.length=b from by omega]
  exact MA c
def Qd{bi:Type}{z:bi→Value}{ao:List Value}{f:List bi}{b s:Nat}{e:bi}(aw:ao.length=s)(c:b < f.length):(ao++f.map z).take (s+b*1)++[z e]++(ao++f.map z).drop (s+b*1+[z e].length)=ao++(f.set b e).map z:=by
  subst aw
  rw [QQ,Q_,ir E,show ao.length+b-ao.length=b from by omega,show ao.length+b+[z e].length=ao.length+(b+[z e].length) from by omega,List.drop_append,QV (E:ao.length≤ao.length+(b+[z e].length)),show ao.length+(b+[z e].length)-ao.length=b+[z e].length from by omega,lK,ia,ia]
  rw [←ia (List.take b _),au9 c]
def N7{bi:Type}{z:bi→Value}{ao:List Value}{f:List bi}{b s:Nat}(aw:ao.length=s)(c:b < f.length):Nat.ble (s+b*1+1) (ao++f.map z).length=true:=by
  rw [aar,eh,fc]
  omega
def Zh{bi:Type}{z:bi→Value}{ao:List Value}{f:List bi}{s d:Nat}{aI:bi}(aw:ao.length=s)(S:f.length=d):(ao++f.map z).take s++List.replicate d (z aI)++(ao++f.map z).drop (s+(List.replicate d (z aI)).length)=ao++(List.replicate d aI).map z:=by
  subst aw S
  rw [K6,QV oU,xA,KX]
section
variable {C:List aB} {u L:Nat} {ay:List Value} {eu:List aB}
def eZ.c1(b:Nat)(ac:C[b]?=some (LK.c1 eu))(bI:LK.ai L ay u∈eu):eZ i C L 0 ay:=fun _ j W k aG ag=>by
  have d_:j.heap[L]?=some (.cells ay.toArray u (0,0)):=(W.cC _ (eF ac)).1 _ bI
  exact L0
def eZ.YP(b:Nat)(ac:i.dO[b]?=some (LK.c1 eu))(bI:LK.ai L ay u∈eu):eZ i C L 0 ay:=fun ok j W k aG ag=>by
  have d_:j.heap[L]?=some (.cells ay.toArray u (0,0)):=(i.b0 ok W ac).1 _ bI
  exact L0
def aq.TS{z:FuncId}{dq:List Operand}{eW:Array TypeId}{ae:List Value}{en:List aB}{post:Value→List aB→Prop}(mI:∀ args j,(callFunc z args).run i.o j=.ok (.enter z args) j)(bA:M i.o z ae.toArray en [] post)(ad:∀ m B,post m B→B=[])
    (ly:dn D dq=some ae) (fM:jC i C [] en):aq i D C (.call { callee:=.value (.func z),args:=dq.toArray,argTypes:=eW }) aX fun m B=>(∃ de,post m de)∧B=C:=fun ok l j V ci y pos cT L bN cz dj =>
  aq.call ae mI (wH ly) bA [] (List.range C.length) (by simpa using tp) rfl C (xe C) (fM [] rfl) ok l j V ci y pos cT L bN cz fun m B bQ ⟨de,hu,dv⟩ W=>dj m C bQ ⟨⟨de,hu⟩,rfl⟩ (by rw [dv,ad m de hu] at W;simpa using W)
end
end
end Go.LK
namespace Go.LK.g
open Go Go.LK
abbrev fh:=List (Option (Nat×T))
def jR:Option (Nat×T)→Value
  | none=>.pointer none
  | some (L,_)=>.n L
def U.au0{i:cM}{D:bW}{Y aX r:TypeId}{e:Operand}{v:Option (Nat×T)}(cF:i.o.underlying Y=some (.pointer r))(Q:aT D e=some (jR v)):U i D (.binOp .eql Y e (.const (.pointer none)) Y) aX (.bool v.isNone):=by
  cases v with
  | none=>exact U.Ps cF Q
  | some A=>obtain ⟨L,F⟩:=A;exact U.jA cF Q
def my(Y:Nat)(af:fh):List aB:=af.filterMap fun v=>v.map fun A=>ai A.1 A.2.cells Y
def c5(af:fh):List T:=af.filterMap fun v=>v.map (·.2)
section
variable {af:fh} {d L Y:Nat} {F e:T} {id:Int}
def P9(c:af[d]?=some (some (L,F))):ai L F.cells Y∈my Y af:=vT.2 ⟨some (L,F),eF c,rfl⟩
def FF(c:af[d]?=some (some (L,F))):F∈c5 af:=vT.2 ⟨some (L,F),eF c,rfl⟩
def WH(c:F∈c5 af):∃ (d L:Nat),af[d]?=some (some (L,F)):=by
  obtain ⟨v,bw,az⟩:=vT.1 c
  obtain ⟨d,R⟩:=p9 bw
  cases v with
  | none=>cases az
  | some A=>obtain ⟨L,aI⟩:=A;cases az;exact ⟨d,L,R⟩
def anM(c:af[d]?=some none):c5 (af.take (d+1))=c5 (af.take d):=by
  exact acM
def WI(c:af[d]?=some (some (L,F))):c5 (af.take (d+1))=c5 (af.take d)++[F]:=by
  exact acM
def OT:(c5 (af.take d)).length≤d:=iZ (Ds _ _) vX
def agH(c:d < af.length):af[((d:Nat):Int).toNat]?=some none∨∃ L F,af[((d:Nat):Int).toNat]?=some (some (L,F)):=by
  rw [GX]
  cases aC:af[d]? with
  | none=>rw [List.getElem?_eq_none_iff] at aC;omega
  | some v =>
    cases v with
    | none=>exact .inl rfl
    | some A=>obtain ⟨L,F⟩:=A;exact .inr ⟨L,F,rfl⟩
def nV(af:fh)(s:Nat):Prop:=∀ d v,s≤d→af[d]?=some v→v=none
def CY{s:Nat}(c:nV af s):c5 (af.take s)=c5 af:=by
  have G:c5 (af.drop s)=[]:=by
    unfold c5
    rw [List.filterMap_eq_nil_iff]
    intro v bw
    obtain ⟨d,R⟩:=p9 bw
    rw [xx] at R
    rw [c _ v E R];rfl
  have J:c5 af=c5 (af.take s)++c5 (af.drop s):=by
    unfold c5;rw [←qG,kQ]
  rw [J,G,xA]
def Km{bi:Type}{f:List bi}{l p:bi}(c:f[d]?=some l):f=f.take d++l :: f.drop (d+1)∧f.set d p=f.take d++p :: f.drop (d+1):=by
  obtain ⟨R,rfl⟩:=dD.1 c
  exact ⟨by rw [←qF R,kQ],KP.trans (ee R)⟩
def X'(c:af[d]?=some none):(c5 (af.set d (some (L,e)))).Perm (e :: c5 af)∧(my Y (af.set d (some (L,e)))).Perm (ai L e.cells Y :: my Y af):=by
  obtain ⟨G,J⟩:=Km (p:=some (L,e)) c
  constructor
  · rw [J];conv=>rhs;rw [G]
    unfold c5
    simp only [qG,uL,Bx,QJ]
    exact tq
  · rw [J];conv=>rhs;rw [G]
    unfold my
    simp only [qG,uL,Bx,QJ]
    exact tq
def Ku(c:af[d]?=some (some (L,F))):(c5 af).Perm (F :: c5 (af.set d none))∧(my Y af).Perm (ai L F.cells Y :: my Y (af.set d none)):=by
  obtain ⟨G,J⟩:=Km (p:=none) c
  constructor
  · rw [J];conv=>lhs;rw [G]
    unfold c5
    simp only [qG,uL,Bx,QJ]
    exact tq
  · rw [J];conv=>lhs;rw [G]
    unfold my
    simp only [qG,uL,Bx,QJ]
    exact tq
def TJ{s:Nat}{v:Option (Nat×T)}(c:nV af s)(R:d < s):nV (af.set d v) s:=fun k A ag a6=>by
  rw [tn E] at a6
  exact c k A ag a6
def ahc{s:Nat}:nV (List.replicate 16 none) s:=fun d v _ c=>by
  rw [GJ] at c
  split at c
  · cases c;rfl
  · cases c
def TL{eu fB:List aB}(c:eu.Perm fB):a' [c1 eu] [c1 fB]:=fun an bL j W=>by
  have G:=cl.oA.1 W
  exact cl.oA.2 (G.pk (c.append_right _))
def Cb{ar:aB}{eu fB:List aB}(c:fB.Perm (ar :: eu)):a' [ar,c1 eu] [c1 fB]:=fun an bL j W=>by
  have G:=a'.I' an bL j W
  exact TL ((GF ar eu).trans c.symm) an bL j G
def MH{ar:aB}{eu fB:List aB}(c:eu.Perm (ar :: fB)):a' [c1 eu] [c1 fB]:=fun an bL j W=>by
  have G:=TL c an bL j W
  have J:=cl.oA.1 G
  have aA:cl an bL (fB++[]) j:=by
    have aZ:cl an bL (ar :: (fB++[])) j:=J
    exact ⟨aZ.aE,fun b2 dP=>aZ.cC b2 (by simp at dP ⊢;exact .inr dP),(l7.1 aZ.gX).2,fun d R=>aZ.mu d (by rw [ya];exact Lf _ R)⟩
  exact cl.oA.2 aA
end
end Go.LK.g
namespace Go.LK.g
open Go Go.LK
def gd(sum s:Int):Int:=ab.cc (if ab.cc s 2147483647=0 then 0 else ab.cc sum 2147483647 / ab.cc s 2147483647) 2147483647
def gn(t yG yt:Int):Int:=if yt < t then 1 else if t < yG then 2 else 0
def awF(t yG yt:Int):gn t yG yt=0∨gn t yG yt=1∨gn t yG yt=2:=by
  unfold gn;split
  · exact .inr (.inl rfl)
  · split
    · exact .inr (.inr rfl)
    · exact .inl rfl
def ka(m:Int):Int:=if m=1 then -1 else if m=2 then 1 else 0
def Z2(m:Int):-1≤ka m∧ka m≤1:=by unfold ka;(repeat' split)<;>omega
def gD(cA held m ev:Int):Int×Int×Int :=
  if cA=0∧held=0 then (if ka m=0 then (0,cA,held) else (ka m,ka m,1))
  else if ka m=-cA∧ev≤held then (ka m,ka m,1)
  else ((if ka m=cA then ka m else 0),cA,fv held 1)
def iv(bm aR held m:Int)(op:Bool)(ev:Int):Bool×Int×Int :=
  if fv held 1 < ev then (false,aR,fv held 1)
  else if m=1 then (if aR=0 then (false,aR,fv held 1) else (true,aR-1,0))
  else if m=2 then (if op=false∨aR=bm then (false,aR,fv held 1) else (true,aR+1,0))
  else (false,aR,fv held 1)
def M7{bm aR held m ev:Int}{op:Bool}(bB:0≤aR)(G:aR≤bm):0≤(iv bm aR held m op ev).2.1∧(iv bm aR held m op ev).2.1≤bm:=by
  unfold iv
  split
  · exact ⟨bB,G⟩
  · split
    · split
      · exact ⟨bB,G⟩
      · constructor<;>dsimp only<;>omega
    · split
      · split
        · exact ⟨bB,G⟩
        · rename_i c;constructor<;>dsimp only<;>omega
      · exact ⟨bB,G⟩
def Qu{cA held m ev:Int}(bB:-1≤cA)(G:cA≤1):-1≤(gD cA held m ev).2.1∧(gD cA held m ev).2.1≤1:=by
  exact acg
def nd(ap am:Int):Bool:=decide (0≤am)&&decide (am < ap)
def VD{ap am:Int}:nd ap am=true↔0≤am∧am < ap:=by simp [nd]
def pX(l p:Int):Int:=ab.cc ((ab.cc l 2147483647*ab.cc p 2147483647+100-1) / 100) 2147483647
def yK{l p:Int}(G:0≤l∧l≤2147483647)(J:0≤p∧p≤2147483647):0≤l*p∧l*p≤4611686014132420609 :=
  ⟨K7 G.1 J.1,aam (Q0 G.2 J.2 J.1 bd) bd⟩
def hi(s uq ajI:Int):Bool:=decide (uq≤s)&&decide (s≤ajI)
def GB{s l p:Int}:hi s l p=true↔l≤s∧s≤p:=by simp [hi]
def mP(id aE O code aa aP aR:Int):Bool :=
  hi code 1 10&&!decide (aE=O)&&hi id 0 281474976710655&&hi aE 0 7&&hi O (-1) 7&&hi aa 0 128&&hi aP 0 4294967295&&hi aR 0 7
def ra(id aE O am a1 bM:Int):Bool :=
  hi id 0 281474976710655&&hi aE (-1) 7&&hi O 0 7&&hi am 0 127&&hi a1 0 1099511627776&&hi bM 0 65535&&!decide (aE=O)
def part(left jr:Int):Int:=ab.cc left 1099511627776*ab.cc jr 8 / 8
def pe(n dr:Int):Int:=if ab.cc dr 65535 < ab.cc n 1099511627776 / 2 then ab.cc dr 65535 else ab.cc n 1099511627776 / 2
def oB(x a1 j dr:Int):Int×Int×Bool:=if pe (part (ab.left a1 x) j) dr=0 then (0,0,false) else (later x (part (ab.left a1 x) j),pe (part (ab.left a1 x) j) dr,true)
def JR{left jr:Int}:0≤ab.cc left 1099511627776*ab.cc jr 8∧ab.cc left 1099511627776*ab.cc jr 8≤8796093022208:=by
  have G:=ab.gP left (bd:(0:Int)≤1099511627776);have J:=ab.gP jr (bd:(0:Int)≤8)
  exact ⟨K7 G.1 J.1,aam (Q0 G.2 J.2 J.1 bd) bd⟩
end Go.LK.g
namespace Go.LK
open Go Go.RowKit
def au8{C:List aB}{bt ec:List Nat}:LK.dB C (bt++ec)=LK.dB C bt++LK.dB C ec:=qG
def cl.M9{an j:World}{bL:List Nat}{C ah:List aB}(c:cl an bL (C++ah) j):cl an bL C j :=
  ⟨c.aE,fun ar bI=>c.cC ar xC,(p7.1 c.gX).1,fun d R=>c.mu d (by
    obtain ⟨ar,bI,R⟩:=jO.1 R
    exact jO.2 ⟨ar,iE.2 (.inl bI),R⟩)⟩
def Ei{o:Program}{b:mz}{id:Nat}{l:Act}{j:World}:∀ {d:List eH},nI id d=none→b.fS (.exit id) l j→j0 o b d (.exit id) l j
  | [],_,c=>c
  | .cE k :: d,ad,c=>by
    simp only [nI] at ad
    simp only [j0,Exit.inBlock]
    cases av:Nat.beq k id
    · rw [av] at ad
      have ea:¬id=k:=fun r=>by subst r;simp at av
      have:=Ei (o:=o) (b:=b) (l:=l) (j:=j) G2 c
      simpa [ea] using this
    · rw [av] at ad;simp at ad
  | .code e :: d,ad,c=>Ei (d:=d) Ro c
  | .po :: d,ad,c=>Ei (d:=d) Ro c
  | .gW cZ :: d,ad,c=>Ei (d:=d) Ro c
section
variable {i:cM} {b:mz} {d:List eH} {D:bW} {C:List aB}
def mB.ahd{bo N:Type}{rec:LoopState→Option Code→Loop}{f b5 id:Nat}{dH:Nat→bo→Prop}{cJ:bo→List aB}{hR:Code→N→Prop}{hk:N→List aB}{t:Nat}{Z:Loop}(aI:N)(ce:hR (.exit id) aI)(ad:nI id d=none)(dI:b.fS=mB i rec f b5 dH cJ hR hk t)
    (bt:List Nat) (aw:bt.Nodup) (dv:LK.dB C bt=LK.cE f (.loop Z) :: LK.cE b5 (.deferred (some [])) :: hk aI) (jk:∀ e,{ Z with state:=.done,pending:=some e }=rec .done (some e)):bl i b (.code (.exit id) :: d) D C:=fun _ l j _ W =>
  wpIn_exit (Ei ad (by
    rw [dI]
    exact mB.kL aI ce (.inr ⟨id,rfl,rfl⟩) jk (dv ▸ W.dB aw)))
def bl.atA{L:Operand}{af:List Tmp}{assign body:Code}{f':Nat}{nj:Array Value}{Eo En:List aB}{s2:List (List Value)→List Value→Prop}{pM:List (List Value)→Prop}{bo N:Type}(dH:List (List Value)→bo→Prop)(cJ:bo→List aB)(hR:Code→N→Prop)(hk:N→List aB)
    (fM:b.b0=none) (bq:aT D L=some (.func (.func f') #[] nj)) (Nc:∀ args j,(callFunc f' args).run i.o j=.ok (.enter f' args) j) (vf:sl i.o f' nj Eo s2 pM) (yw:∀ ae e,s2 ae e→e.length=af.length) (OC:af.all (fun n=>Nat.blt n i.s)=true)
    (bK:bo) (bB:dH [] bK) (bt ec:List Nat) (aw:(bt++ec).Nodup) (dv:LK.dB C bt=cJ bK) (bI:LK.dB C ec=En) (yA:∀ ar∈Eo,ar∈i.dO∨ar∈En)
    (round:∀ (eS:World) (tF:List Nat) (f b5:Nat) (rec:LoopState→Option Code→Loop) ae F e,(∀ H n,(rec H n).state=H)→(∀ H n gC ks,{ rec H n with state:=gC,pending:=ks }=rec gC ks)→dH ae F→s2 ae e →
      bl { i with an:=eS,bL:=tF } ⟨some f,b.lO-1-1,[],fun _ _ _=>False⟩ [.code assign,.gW (L3 { i with an:=eS,bL:=tF } ⟨some f,b.lO-1-1,[],mB { i with an:=eS,bL:=tF } rec f b5 (fun _ F=>dH (ae++[e]) F) cJ hR hk 0⟩ f body)] (Ie af e D) (LK.cE f (.loop (rec .ready none)) :: LK.cE b5 (.deferred (some [])) :: cJ F))
    (done:∀ f b5 Z ae F,pM ae→dH ae F→bl i { b with fQ:={ target:=.collected b5,args:=#[] } :: b.fQ } d D (LK.cE f (.loop Z) :: LK.cE b5 (.deferred (some [])) :: cJ F))
    (Qm:∀ f b5 Z e aI,hR e aI→bl i { b with fQ:={ target:=.collected b5,args:=#[] } :: b.fQ } (.code e :: d) D (LK.cE f (.loop Z) :: LK.cE b5 (.deferred (some [])) :: hk aI)) :
    bl i b (.code (.rangeFunc L af.toArray assign body) :: d) D C:=fun ok l j V W=>by
  have ci:cl i.an i.bL (cJ bK++En) j:=by have au:=W.dB aw;rwa [au8,dv,bI] at au
  show (Code.rangeFunc L af.toArray assign body).wpIn (kg b.b0) b.lO i.o (j0 i.o b d) l j
  refine wpIn_rangeFunc ?_
  intro fn _
  obtain ⟨rec,jk⟩:∃ rec:LoopState→Option Code→Loop,rec=fun dC FZ=>O9 fn l.tmps af.toArray assign body j.heap.size dC FZ:=⟨_,rfl⟩
  have Iz:∀ H n,(rec H n).state=H:=fun H n=>by rw [jk];rfl
  have EX:∀ H n gC ks,{ rec H n with state:=gC,pending:=ks }=rec gC ks:=fun H n gC ks=>by rw [jk];rfl
  have wV:=(ci.alloc (.deferred (some []))).alloc (.loop (rec .ready none))
  rw [World.size_alloc] at wV
  have Og:=run_enterLoop_outer (P:=i.o) (w:=j) fn l.tmps af.toArray assign body
  have E4:∀ b5,l9 i.s ({ target:=.collected b5,args:=#[] } :: b.fQ) { l with defers:=[{ target:=.collected b5,args:=#[] }]++l.defers } D:=fun b5=>⟨V.size,by rw [V.defers];rfl,V.cC⟩
  refine ⟨j.heap.size+1,[{ target:=.collected j.heap.size,args:=#[] }],(j.alloc (.deferred (some []))).alloc (.loop (rec .ready none)),{ target:=.fn (.func f') nj,args:=#[.func (.yield (j.heap.size+1)) #[] #[]] },(j.alloc (.deferred (some []))).alloc (.loop (rec .ready none)),f',
    #[.func (.yield (j.heap.size+1)) #[] #[]]++nj,(j.alloc (.deferred (some []))).alloc (.loop (rec .ready none)),?_,?_,fun _ _=>trivial,?_,fun c=>(by cases c),?_⟩
  · rw [jk]
    show (Instr.enterLoop fn l.tmps af.toArray assign body b.b0).run i.o j=_
    rw [fM]
    exact Og
  · have aC:l.eval (.const (.func (.yield (j.heap.size+1)) #[] #[]))=.func (.yield (j.heap.size+1)) #[] #[]:=rfl
    simp [resolve,Deferred.ofValue,V.aT bq,aC]
  · simp [invoke,Nc]
  · have Fy:kg b.b0=kg none:=by rw [fM]
    have rY:cl i.an i.bL ((LK.cE (j.heap.size+1) (.loop (rec .ready none)) :: LK.cE j.heap.size (.deferred (some [])) :: cJ bK)++En) ((j.alloc (.deferred (some []))).alloc (.loop (rec .ready none))):=wV
    have al4:=rY.M9
    have aS:=vf (j.heap.size+1) (b.lO-1) bo (Code×N) dH (fun F=>LK.cE (j.heap.size+1) (.loop (rec .ready none)) :: LK.cE j.heap.size (.deferred (some [])) :: cJ F) (fun aI=>hR aI.1 aI.2) (fun aI=>LK.cE (j.heap.size+1) (.loop (rec .done (some aI.1))) :: LK.cE j.heap.size (.deferred (some [])) :: hk aI.2) i.dO ((j.alloc (.deferred (some []))).alloc (.loop (rec .ready none))) bK
      (fun ar bI=>by
        have yi:ar∈i.dO∨ar∈En:=by
          rcases iE.1 bI with c|c
          · exact yA ar c
          · exact .inl c
        rcases yi with yi|yi
        · exact cM.Dj ok al4 ar yi
        · exact ⟨rY.cC ar (iE.2 (.inr yi)),fun d R hB=>by
            obtain ⟨b2,dP,hB⟩:=jO.1 hB
            exact (p7.1 rY.gX).2.2 b2 dP ar yi d hB R⟩)
      (fun ae F e eS az Q dI ix=>by
        have S:eS.heap[j.heap.size+1]?=some (.loop (rec .ready none)):=ix.cC (LK.cE (j.heap.size+1) (.loop (rec .ready none))) oU
        have um:=run_yield (P:=i.o) (args:=e.toArray) S Rv
        have rY:=round eS (ei (LK.cE (j.heap.size+1) (.loop (rec .ready none)) :: LK.cE j.heap.size (.deferred (some [])) :: cJ F)) (j.heap.size+1) j.heap.size rec ae F e Iz EX az Q (fun ar bI=>dI ar (iE.2 (.inr bI))) { tmps:=(af.zip e).foldl (fun u (n,m)=>u.setIfInBounds n m) l.tmps,defers:=[] } eS (N1 (rj.1 OC) ⟨V.size,rfl,V.cC⟩ (yw ae e Q)) ix
        have dQ:(rec .ready none).fn=fn:=by rw [jk];rfl
        have bP:(rec .ready none).params=af.toArray:=by rw [jk];rfl
        have cP:(rec .ready none).assign=assign:=by rw [jk];rfl
        have cQ:(rec .ready none).body=body:=by rw [jk];rfl
        have dZ:(rec .ready none).tmps=l.tmps:=by rw [jk];rfl
        rw [dQ,bP,cP,cQ,dZ] at um
        have eE:(af.toArray.zip e.toArray).foldl (fun u (n,m)=>u.setIfInBounds n m) l.tmps=(af.zip e).foldl (fun u (n,m)=>u.setIfInBounds n m) l.tmps:=by simp
        rw [eE] at um
        have OH:RoundIn (kg none) (b.lO-1-1) i.o (j.heap.size+1) fn ((af.zip e).foldl (fun u (n,m)=>u.setIfInBounds n m) l.tmps) assign body eS (fun r dY=>(r=.returned (.bool true)∧Mi { i with an:=eS,bL:=ei (LK.cE (j.heap.size+1) (.loop (rec .ready none)) :: LK.cE j.heap.size (.deferred (some [])) :: cJ F) } rec (j.heap.size+1) j.heap.size (fun _ F=>dH (ae++[e]) F) cJ (0+1) dY)∨(r=.returned (.bool false)∧Mj { i with an:=eS,bL:=ei (LK.cE (j.heap.size+1) (.loop (rec .ready none)) :: LK.cE j.heap.size (.deferred (some [])) :: cJ F) } rec (j.heap.size+1) j.heap.size hR hk dY)):=roundIn_of_wpIn trivial rY
        refine ⟨fn,_,assign,body,um,aan OH ?_⟩
        rintro r dY (⟨rfl,hj,jM,eY⟩|⟨rfl,Bo,aI,ce,eY⟩)
        · exact .inl ⟨rfl,hj,jM,eY⟩
        · exact .inr ⟨rfl,(Bo,aI),ce,eY⟩)
      bB rY.fy
    rw [Fy]
    refine aS.mono ?_
    rintro r dY ⟨⟨m,rfl⟩,EW⟩
    rcases EW with ⟨ae,F,Oh,az,Cz⟩|⟨⟨e,aI⟩,ce,Cz⟩
    · have ix:cl i.an i.bL (LK.cE (j.heap.size+1) (.loop (rec .ready none)) :: LK.cE j.heap.size (.deferred (some [])) :: cJ F) dY:=by
        exact (rY.o3 Cz).M9
      have S:dY.heap[j.heap.size+1]?=some (.loop (rec .ready none)):=ix.cC (LK.cE (j.heap.size+1) (.loop (rec .ready none))) oU
      have aC:=run_endLoop (P:=i.o) S abc
      have dQ:(rec .ready none).pending=none:=by rw [jk];rfl
      rw [dQ] at aC
      refine ⟨none,_,aC,?_⟩
      have:=done (j.heap.size+1) j.heap.size { rec .ready none with state:=.exhausted,pending:=none } ae F Oh az ok _ _ (E4 j.heap.size) (ix.putObj (b:=0) (jo:=.loop { rec .ready none with state:=.exhausted,pending:=none }) rfl)
      rw [xO] at this
      exact this
    · have ix:cl i.an i.bL (LK.cE (j.heap.size+1) (.loop (rec .done (some e))) :: LK.cE j.heap.size (.deferred (some [])) :: hk aI) dY:=by
        exact (rY.o3 Cz).M9
      have S:dY.heap[j.heap.size+1]?=some (.loop (rec .done (some e))):=ix.cC (LK.cE (j.heap.size+1) (.loop (rec .done (some e)))) oU
      have aC:=run_endLoop (P:=i.o) S abc
      have dQ:(rec .done (some e)).pending=some e:=by rw [jk];rfl
      rw [dQ] at aC
      refine ⟨some e,_,aC,?_⟩
      have:=Qm (j.heap.size+1) j.heap.size { rec .done (some e) with state:=.exhausted,pending:=some e } e aI ce ok _ _ (E4 j.heap.size) (ix.putObj (b:=0) (jo:=.loop { rec .done (some e) with state:=.exhausted,pending:=some e }) rfl)
      show e.wpIn (kg none) b.lO i.o (j0 i.o b d) _ _
      have J:e.wpIn (kg b.b0) b.lO i.o (j0 i.o { b with fQ:={ target:=.collected j.heap.size,args:=#[] } :: b.fQ } d) { l with defers:=[{ target:=.collected j.heap.size,args:=#[] }]++l.defers } _:=this
      rw [xO,Fy] at J
      exact J
end
end Go.LK
namespace Go.LK
open Go Go.RowKit
section
variable {i:cM} {b:mz} {d:List eH} {D:bW} {C:List aB} {ak:Array Oper} {bv:List Oper} {aX:TypeId} {y:Nat} {pos:String} {cT:Array Edge} {v:Op} {m:Value} {k u:Nat} {db p:Bool}
def bX.oC{ah:Value→List aB→Prop}(ag:(ak[k]?).bind (·.dst)=some u)(bA:gx D u=some (.bool p))(av:p=db)(aw:Nat.blt u i.s=true)(S:aq i D C v aX ah)(ao:Nat.blt y i.s=true)(c:∀ m B,ah m B→bX i b ak bv d ((y,m) :: D) B)(gv:vs v=true:=by rfl) :
    bX i b ak (⟨some y,v,aX,pos,cT,some (k,db)⟩ :: bv) d D C:=fun ok l j V W =>
  wpListIn_step fun _ dj=>by
    rw [show Region.wanted ⟨some y,v,aX,pos,cT,some (k,db)⟩ (yielded ak l.tmps)=true from xl (l:=iT l) (k:=k) (u:=u) (db:=db) V.iT rfl ag (av ▸ bA) aw,ee rfl]
    exact GC (p:=iT l) (bo:=fun m B bQ=>ah m B∧cl i.an i.bL B bQ) (C8 gv) G3 (fun sA lT=>by cases lT;rw [V.iT.size];exact kc ao)
      (S ok (iT l) j V.iT W _ _ _ _ _ _ fun m B _ dI eY=>⟨m,B,rfl,dI,eY⟩) fun m B bQ ld=>dj _ _ (c m B ld.1 ok _ bQ (V.put m ao) ld.2)
def bX.eg(ag:(ak[k]?).bind (·.dst)=some u)(bA:gx D u=some (.bool p))(av:p=db)(aw:Nat.blt u i.s=true)(a6:aV i D C v aX m)(ao:Nat.blt y i.s=true)(c:bX i b ak bv d ((y,m) :: D) C)(gv:vs v=true:=by rfl) :
    bX i b ak (⟨some y,v,aX,pos,cT,some (k,db)⟩ :: bv) d D C :=
  bX.oC (ah:=fun aG B=>aG=m∧B=C) ag bA av aw (fun ok l j V W y pos cT L bN cz dj=>lJ (a6 ok l j V W _ _ _ _) (dj m C j ⟨rfl,rfl⟩ W)) ao (by rintro _ _ ⟨rfl,rfl⟩;exact c) gv
def bX.kV(ag:(ak[k]?).bind (·.dst)=some u)(bA:gx D u=some (.bool p))(av:p=db)(aw:Nat.blt u i.s=true)(a6:U i D v aX m)(ao:Nat.blt y i.s=true)(c:bX i b ak bv d ((y,m) :: D) C)(gv:vs v=true:=by rfl) :
    bX i b ak (⟨some y,v,aX,pos,cT,some (k,db)⟩ :: bv) d D C:=bX.eg ag bA av aw a6.dg ao c gv
def bX.iI{aG:Value}(ag:(ak[k]?).bind (·.dst)=some u)(bA:gx D u=some aG)(bp:o4 aG≠some db)(aw:Nat.blt u i.s=true)(ao:Nat.blt y i.s=true)(c:bX i b ak bv d ((y,undef) :: D) C) :
    bX i b ak (⟨some y,v,aX,pos,cT,some (k,db)⟩ :: bv) d D C:=fun ok l j V W =>
  wpListIn_step fun _ dj=>by
    rw [show Region.wanted ⟨some y,v,aX,pos,cT,some (k,db)⟩ (yielded ak l.tmps)=false from y8 (l:=iT l) (k:=k) (u:=u) (db:=db) V.iT rfl ag bA bp aw,be oU]
    exact ⟨fun _ _=>trivial,dj _ _ (c ok _ j (V.put undef ao) W)⟩
def bX.U4{f t:Nat}{e:Operand}{dq:List Operand}{eW:Array TypeId}{ae:List Value}(ah dW:List aB){bN:Bool→List aB→Prop}(ag:(ak[k]?).bind (·.dst)=some u)(bA:gx D u=some (.bool p))(av:p=db)(aw:Nat.blt u i.s=true)(N_:b.lO=t)(fM:b.b0=none)(Q:aT D e=some (.func (.yield f) #[] #[]))(ly:dq.map (aT D)=ae.map some)(dv:C=ah++dW)
    (az:i.bC→∀ eS,cl i.an i.bL C eS→cl eS (ei dW) dW eS→YieldAt (kg none) (t-1) i.o f ae.toArray eS fun r dY=>∃ p B,r=.returned (.bool p)∧bN p B∧cl eS (ei dW) B dY) (ao:Nat.blt y i.s=true)
    (c:∀ p B,bN p B→bX i b ak bv d ((y,.bool p) :: D) (ah++B)):bX i b ak (⟨some y,.call { callee:=.value e,args:=dq.toArray,argTypes:=eW },aX,pos,cT,some (k,db)⟩ :: bv) d D C:=fun ok l j V W =>
  wpListIn_step fun hs dj=>by
    rw [show Region.wanted ⟨some y,.call { callee:=.value e,args:=dq.toArray,argTypes:=eW },aX,pos,cT,some (k,db)⟩ (yielded ak l.tmps)=true from xl (l:=iT l) (k:=k) (u:=u) (db:=db) V.iT rfl ag (av ▸ bA) aw,ee rfl]
    subst N_ dv
    have jw:cl i.an i.bL (dW++ah) j:=W.pk Dv
    obtain ⟨fn,tmps,assign,body,oH,Wm⟩:=az ok j W jw.fy
    have Wu:dq.map l.eval=ae:=by
      rw [←H2];exact V.iT.dn ly
    have Aq:(execOp l.eval ⟨some y,.call { callee:=.value e,args:=dq.toArray,argTypes:=eW },aX,pos,cT,some (k,db)⟩).run i.o j=.ok (.round f fn tmps assign body) j:=by
      exact acv
    exact ado
end
section
variable {i:cM} {D:bW} {C:List aB} {aX u Y:TypeId} {e aI:Operand} {bi:Type} {f:List bi}
def U.akx{s r L off H:Nat}{t:Int}(cF:∀ j,(underlying Y).run i.o j=.ok (.array s r) j)(W:∀ j,(sizeOf r).run i.o j=.ok H j)(Q:aT D e=some (.pointer (some ⟨L,off,none⟩)))(ce:aT D aI=some (.b t))(bB:0≤t)(G:t≤s) :
    U i D (.slice Y e none (some aI) none) aX (.slice (some ⟨L,off,none⟩) t.toNat s):=fun l j V _ _ _ _=>by
  obtain ⟨d,rfl⟩:=Int.eq_ofNat_of_zero_le bB
  have J:d≤s:=by omega
  by_cases aw:s=0
  · subst aw
    obtain rfl:d=0:=by omega
    simp [execOp,V.aT Q,V.aT ce,Instr.sliceAt,Instr.sureAddr,Instr.sliceBounds,Instr.sliceBound,asIntOf,cF,W]
  · simp [execOp,V.aT Q,V.aT ce,Instr.sliceAt,Instr.sureAddr,Instr.sliceBounds,Instr.sliceBound,asIntOf,cF,W,Addr.add,J]
def ako{j:World}{L off s t:Nat}{ao:List Value}{z:bi→Value}(c:(ai L (ao++f.map z) u).holds j)(d_:ao.length=off)(S:f.length=s)(bh:t≤s)(aw:s≤maxLen):oV j (.slice (some ⟨L,off,none⟩) t s) 1 ((f.take t).map fun e=>[z e]):=by
  subst S d_
  have gI:(f.take t).length=t:=by simp;omega
  refine ⟨fun e Q=>?_,⟨_,f.length,by rw [fc,gI],by rw [fc,gI];exact bh,aw⟩,fun _=>⟨f.length,by rw [fc,gI];rfl⟩,fun b r k aG ac ag=>?_⟩
  · obtain ⟨F,_,rfl⟩:=bx.1 Q;rfl
  · rw [hy] at ac
    obtain ⟨F,az,rfl⟩:=Bz.1 ac
    have vg:k=0:=by
      have:=(dD.1 ag).1
      simp at this;exact this
    subst vg
    simp at ag;subst ag
    have jM:f[b]?=some F:=by
      have ca:=(dD.1 az).1
      rw [gI] at ca
      rwa [k6,ee ca] at az
    have bq:j.heap[L]?=some (.cells (ao++f.map z).toArray u (0,0)):=c
    show j.cell? ⟨L,ao.length+b*1+0,none⟩=_
    rw [cell_of_row j L _ _ u _ bq]
    show (ao++List.map z f).toArray[ao.length+b*1+0]?=_
    rw [Bs,Du E,show ao.length+b*1+0-ao.length=b from by omega,hy,jM]
    rfl
def ax.akn{L off s t:Nat}{ao:List Value}{z:bi→Value}(b:Nat)(ac:i.dO[b]?=some (ai L (ao++f.map z) u))(d_:ao.length=off)(S:f.length=s)(bh:t≤s)(aw:s≤maxLen):ax i C (.slice (some ⟨L,off,none⟩) t s) 1 ((f.take t).map fun e=>[z e]):=fun ok _ W=>ako (i.b0 ok W ac) d_ S bh aw
end
end Go.LK
namespace Go.LK
open Go Go.RowKit
def Mn(j:World)(u:TypeId)(m:Value)(gm:List Int):Prop :=
  ∃ L cap fF ny,m=.slice (some ⟨L,0,none⟩) gm.length cap∧j.heap[L]?=some (.cells fF u ny)∧(∀ b,b < cap→¬(ny.1≤b∧b < ny.2))∧gm.length≤cap∧cap≤maxLen∧fF.size=cap∧fF.toList.take gm.length=gm.map (Value.int .u8)
def vG(m:Value)(u:TypeId)(gm:List Int):aB where
  dT:=m.ownBlock.toList
  holds j:=Mn j u m gm
  lt j c d R:=by
    obtain ⟨L,cap,fF,ny,rfl,bq,_⟩:=c
    have:d=L:=by simpa [Value.ownBlock] using R
    subst this
    exact (qE.1 bq).1
  oM j bQ c d_:=by
    obtain ⟨L,cap,fF,ny,rfl,bq,bv⟩:=d_
    exact ⟨L,cap,fF,ny,rfl,by rw [c L (by simp [Value.ownBlock])];exact bq,bv⟩
def Us(s:Int):List Value:=[.int .u8 s]
def YW(o:Program)(L v:Nat)(u:TypeId)(ny:Nat×Nat):∀ (ae:List Value) (b:Nat) (fF:Array Value) (j:World),j.heap[L]?=some (.cells fF u ny)→(∀ b,b < fF.size→¬(ny.1≤b∧b < ny.2))→v+b+ae.length≤fF.size→(∀ m∈ae,m.oneCell'=true) →
    (storeCells ⟨L,v,none⟩ ae b).run o j=.ok () (j.setRow L (fF.toList.take (v+b)++ae++fF.toList.drop (v+b+ae.length)).toArray)
  | [],b,fF,j,bq,_,_,_=>by
    simp only [storeCells,xA,fq,DD,kQ,K4]
    rw [setRow_self j L fF u ny bq]
    rfl
  | m :: bv,b,fF,j,bq,yr,S,G=>by
    have ac:v+b < fF.size:=by simp at S;omega
    have rO:(⟨L,v,none⟩:Addr).add b=⟨L,v+b,none⟩:=by unfold Addr.add;split<;>simp_all
    have akk:j.cell? ⟨L,v+b,none⟩=some fF[v+b]:=by simp [World.cell?,bq,ac]
    have akE:j.frozen? ⟨L,v+b,none⟩=false:=by
      have c:=yr _ ac
      obtain ⟨gw,ys⟩:=ny
      simp only [World.frozen?,bq,GS,decide_eq_false_iff_not]
      simp only at c
      omega
    have ci:(store ((⟨L,v,none⟩:Addr).add b) m).run o j=.ok () (j.setRow L (fF.setIfInBounds (v+b) m)):=by
      rw [rO,run_store o j _ m _ (G m oU),akk]
      simp [akE,setCell_eq_setRow j L (v+b) fF u ny m bq]
    have b6:=YW o L v u ny bv (b+1) (fF.setIfInBounds (v+b) m) (j.setRow L (fF.setIfInBounds (v+b) m)) (setRow_heap j L fF _ u _ bq) (by simpa using yr) (by simp at S ⊢;omega) (fun e Q=>G e DR)
    simp only [storeCells,nn,ci,k7,b6,setRow_setRow]
    congr 3
    have r:=list_seg_step fF.toList (v+b) m bv (by simp at S ⊢;omega)
    simpa [Array.toList_setIfInBounds,QR] using r
def aum{o:Program}(j:World)(u aX r:TypeId)(b:TypeInfo)(bA:o.underlying u=some (.slice r))(ac:o.info? r=some b)(ce:b.zero=some (.int .u8 0))(FA:b.size=1)(Ah:b.bytes=1)
    (m:Value) (gm:List Int) (Fq:Mn j r m gm) (l:Addr) (i:Nat) (iJ:List Int) (Wg:∀ k aG,(iJ.map (Value.int .u8))[k]?=some aG→j.cell? (l.add k)=some aG) (u':gm.length+iJ.length≤140737488355328) :
    ∃ sb bQ,(Builtin.append_ #[u,u] aX #[m,.slice (some l) iJ.length i]).run o j=.ok sb bQ∧Mn bQ r sb (gm++iJ)∧j.grownBy bQ m.ownBlock∧(sb.ownBlock=m.ownBlock∨sb.ownBlock=some j.heap.size):=by
  obtain ⟨L,cap,fF,ny,rfl,bq,yr,pT,pP,jb,pg⟩:=Fq
  have alL:∀ aG∈iJ.map (Value.int .u8),aG.oneCell'=true:=fun aG bp=>by
    obtain ⟨e,_,rfl⟩:=bx.1 bp;rfl
  have AB:(iJ.map (Value.int .u8)).length=iJ.length:=by simp
  by_cases hroom:gm.length+iJ.length≤cap
  · have bc:=run_firstCells_some (P:=o) j b.size iJ.length l iJ.length i (iJ.map (Value.int .u8)) (by rw [FA];simp) Wg
    have ci:=YW o L gm.length r ny (iJ.map (Value.int .u8)) 0 fF j bq (by rw [jb];exact yr) (by rw [AB];omega) alL
    simp only [DD,AB] at ci
    have cs:(Builtin.append_ #[u,u] aX #[.slice (some ⟨L,0,none⟩) gm.length cap,.slice (some l) iJ.length i]).run o j=.ok (.slice (some ⟨L,0,none⟩) (gm.length+iJ.length) cap) (j.setRow L (fF.toList.take gm.length++iJ.map (Value.int .u8)++fF.toList.drop (gm.length+iJ.length)).toArray):=by
      rw [FA] at bc
      simp [Builtin.append_,jf bA,sizeOf,typeInfo,ac,FA,Builtin.lenOf,hroom,bc,Addr.add_lit,ci]
    refine ⟨_,_,cs,⟨L,cap,_,ny,by rw [eh],setRow_heap j L fF _ r _ bq,yr,by rw [eh];exact hroom,pP,?_,?_⟩,⟨rfl,rfl,rfl,by simp,fun d _ R=>setRow_other j L d _ (fun r=>R (by simp [Value.ownBlock,r]))⟩,.inl rfl⟩
    · simp only [GP,eh,ib,hw,K8,AB]
      omega
    · have gI:(gm.map (Value.int .u8)++iJ.map (Value.int .u8)).length=(gm++iJ).length:=by simp
      rw [pg,gR,←gI]
      exact K6
  · have holds:∀ k aG,(gm.map (Value.int .u8))[k]?=some aG→j.cell? ((⟨L,0,none⟩:Addr).add k)=some aG:=fun k aG bp=>by
      have rO:(⟨L,0,none⟩:Addr).add k=⟨L,k,none⟩:=by unfold Addr.add;split<;>simp_all
      rw [rO,cell_of_row j L k fF r ny bq]
      rw [←pg,k6] at bp
      split at bp
      · simpa using bp
      · cases bp
    have cs:=run_append_grow (P:=o) j u aX r b (.int .u8 0) bA ac ce ⟨L,0,none⟩ gm.length cap (gm.map (Value.int .u8)) (by rw [FA];simp) holds l iJ.length i (iJ.map (Value.int .u8)) (by rw [FA];simp) Wg E E (by rw [Ah];exact growslice_fits E E)
    have Fh:=grownCap_ge j (gm.length+iJ.length) cap r
    have akl:grownCap j (gm.length+iJ.length) cap r≤maxLen:=grownCap_le_maxLen j (gm.length+iJ.length) cap r (by unfold maxLen;omega)
    refine ⟨_,_,cs,⟨j.heap.size,_,_,(0,0),by rw [eh],heap_alloc_new j.drew _,fun b _=>by simp,by rw [eh];exact Fh,akl,?_,?_⟩,⟨rfl,rfl,rfl,by simp,fun d R _=>Below.heap_alloc j.drew _ d R⟩,.inr rfl⟩
    · have anf:(Value.int IntKind.u8 0).cells.size=1:=rfl
      simp only [Array.size_append,GP,size_zeroCells,anf,AB,fc]
      omega
    · have gI:(gm.map (Value.int .u8)++iJ.map (Value.int .u8)).length=(gm++iJ).length:=by simp
      simp only [Array.toList_append,ia,gR]
      rw [←ia,←gI]
      exact K6
def Bb(d:IntKind)(t H:Int):Int:=t.fdiv (2 ^ min H.toNat d.bits)
section
variable {i:cM} {D:bW} {C:List aB} {aX u aj b5 Y:TypeId} {e F:Operand} {X:Value}
def U.Zk{d QI:IntKind}{t H:Int}(Q:aT D e=some (.int d t))(az:aT D F=some (.int QI H))(bB:0≤H){Gw:TypeId}:U i D (.binOp .shr Y e F Gw) aX (.int d (Bb d t H)):=fun l j V _ _ _ _=>by
  have aw:¬H < 0:=by omega
  simp only [execOp,V.aT Q,V.aT az]
  simp [eqGuard,binOp,Op.shift,aw,Bb]
def U.anC{s r:Nat}{fE:IntKind}{t:Int}{d:Nat}{bi:Type}{z:bi→Value}{f:List bi}{p:bi}(cF:∀ j,(underlying Y).run i.o j=.ok (.array s r) j)(W:∀ j,(sizeOf r).run i.o j=.ok 1 j)(qp:∀ j,(isAgg r).run i.o j=.ok false j)
    (Q:aT D e=some (.agg (f.map z).toArray)) (az:aT D F=some (.int fE t)) (R:t.toNat=d) (bB:0≤t) (G:t < s) (av:f[d]?=some p):U i D (.index Y e F) aX (z p) :=
  U.I6 cF W qp Q az bB G (by rw [R,QQ,hy,av];rfl)
def U.av8{s r L gw:Nat}(cF:∀ j,(underlying Y).run i.o j=.ok (.array s r) j)(W:∀ j,(sizeOf r).run i.o j=.ok 1 j)(Q:aT D e=some (.n L))(ce:aT D F=some (.b (gw:Int)))(CK:Nat.blt gw s=true) :
    U i D (.slice Y e (some F) none none) aX (.slice (some ⟨L,gw,none⟩) (s-gw) (s-gw)):=fun l j V _ _ _ _=>by
  have J:gw < s:=kc CK
  have aA:¬s=gw:=by omega
  simp [execOp,V.aT Q,V.aT ce,Instr.sliceAt,Instr.sureAddr,Instr.sliceBounds,Instr.sliceBound,asIntOf,cF,W,Addr.add,Nat.le_of_lt J,aA]
  exact fun c=>c.symm
def aq.ah6(b:Nat){r L v t Xh:Nat}{ay:List Value}{bi:Type}{z:bi→Value}{f:List bi}{q:Value}{jm:TypeInfo}{Gv:TypeId}(kA:List Value)(cF:i.o.underlying Y=some (.slice r))(q3:i.o.info? r=some jm)(ni:jm.size=1)
    (Q:aT D e=some (.slice (some ⟨L,v,none⟩) t Xh)) (ac:C[b]?=some (ai L ay Gv)) (az:aT D F=some q) (W:ax i C q 1 (f.map fun l=>[z l])) (S:f.length=t) (bh:Nat.blt 0 t=true) (G:∀ l∈f,(z l).oneCell'=true)
    (jb:ay.take v++f.map z++ay.drop (v+t)=kA) (As:Nat.ble (v+t) ay.length=true) :
    aq i D C (.call { callee:=.builtin .copy,args:=#[e,F],argTypes:=#[Y,aj] }) aX fun m B=>m=.b (t:Int)∧B=C.set b (ai L kA Gv):=fun ok l j V ci y pos cT rJ bN cz dj=>by
  subst S jb
  have d_:j.heap[L]?=some (.cells ay.toArray Gv (0,0)):=ci.cC _ (eF ac)
  have ie:=W ok j ci
  obtain ⟨cap,ba⟩:=ie.wB (by
    intro aS
    have:=kc bh
    have bB:=dz List.length aS
    simp at bB
    subst bB;simp at this)
  rw [fc] at ba
  have al3:∀ k m,(f.map z)[k]?=some m→j.cell? ((⟨jT q,kN q,none⟩:Addr).add k)=some m:=fun k aG bp=>by
    rw [hy] at bp
    obtain ⟨s,aw,rfl⟩:=Bz.1 bp
    have:=ie.cells k [z s] 0 _ (by rw [hy,aw];rfl) rfl
    rw [zN]
    simpa using this
  have cs:=run_copy_row (P:=i.o) j Y aj aX r L v f.length Xh ⟨jT q,kN q,none⟩ f.length cap ay.toArray Gv (f.map z) cF (by rw [q3];simp [ni]) d_ oU al3 (by simpa using kc As) (fun m ba=>by
    obtain ⟨l,V,rfl⟩:=bx.1 ba;exact G l V)
  rw [fc] at cs
  refine lJ (m:=.b (f.length:Int)) (bQ:=j.setRow L (ay.take v++f.map z++ay.drop (v+f.length)).toArray) ?_ (dj _ _ _ ⟨rfl,rfl⟩ (ci.set ac (Qc j L _) (setRow_heap j L _ _ Gv (0,0) d_) (fun d R=>.inl R)))
  have jM:l.eval F=.slice (some ⟨jT q,kN q,none⟩) f.length cap:=by rw [V.aT az];exact ba
  simp [execOp,resolve,invoke,builtin,V.aT Q,jM,cs,goInt]
def aq.ahi(aW:i.o.underlying aj=some .string)(mg:i.o.underlying b5=some (.slice u))(aC:i.o.underlying u=some (.int .u8))(Q:aT D e=some (uH [])):aq i D C (.convert aj b5 e) aX fun m B=>B=vG m u [] :: C:=fun _ l j V ci y pos cT L bN cz dj=>by
  have cs:=run_bytes_of_string j aj b5 u ⟨([]:List UInt8).toArray⟩ aW mg aC
  have akh:=grownCap_le_maxLen j 0 0 u (by unfold maxLen;omega)
  have ce:(ByteArray.mk ([]:List UInt8).toArray).size=0:=rfl
  rw [ce] at cs
  have ni:(bytesRow ⟨([]:List UInt8).toArray⟩ (grownCap j 0 0 u)).size=grownCap j 0 0 u:=by simp [bytesRow,ce]
  rw [ni] at cs
  refine lJ (m:=.slice (some ⟨j.heap.size,0,none⟩) 0 (grownCap j 0 0 u)) (bQ:=j.drew.alloc (.cells (bytesRow ⟨([]:List UInt8).toArray⟩ (grownCap j 0 0 u)) u (grownCap j 0 0 u,grownCap j 0 0 u+1))) ?_
    (dj _ _ _ rfl (ci.add ⟨rfl,rfl,rfl,by simp,fun d R _=>Below.heap_alloc j.drew _ d R⟩ (kS:=vG _ u []) ⟨j.heap.size,grownCap j 0 0 u,_,_,rfl,heap_alloc_new j.drew _,fun b ac=>?_,GG _,akh,ni,rfl⟩ (by simp [vG,Value.ownBlock])))
  · have aC:l.eval e=.string ⟨([]:List UInt8).toArray⟩:=V.aT Q
    simp only [execOp,aC,nn,cs,k7]
    rfl
  · dsimp only;omega
def aq.agx(b:Nat){q:Value}{gm iJ:List Int}{r:TypeId}{jm:TypeInfo}(cF:i.o.underlying Y=some (.slice u))(q3:i.o.info? u=some jm)(ce:jm.zero=some (.int .u8 0))(ni:jm.size=1)(Ah:jm.bytes=1)
    (Q:aT D e=some X) (ac:C[b]?=some (vG X u gm)) (az:aT D F=some q) (W:ax i C q 1 (iJ.map Us)) (ea:iJ≠[]) (u':gm.length+iJ.length≤140737488355328) :
    aq i D C (.call { callee:=.builtin .append,args:=#[e,F],argTypes:=#[Y,Y] }) r fun m B=>B=C.set b (vG m u (gm++iJ)):=fun ok l j V ci y pos cT rJ bN cz dj=>by
  have d_:=ci.cC _ (eF ac)
  have ie:=W ok j ci
  obtain ⟨cap,ba⟩:=ie.wB (by simpa using ea)
  rw [fc] at ba
  have N5:∀ k aG,(iJ.map (Value.int .u8))[k]?=some aG→j.cell? ((⟨jT q,kN q,none⟩:Addr).add k)=some aG:=fun k aG bp=>by
    rw [hy] at bp
    obtain ⟨s,aw,rfl⟩:=Bz.1 bp
    have:=ie.cells k [Value.int .u8 s] 0 _ (by rw [hy,aw];rfl) rfl
    rw [zN]
    simpa using this
  obtain ⟨sb,bQ,cs,J,aA,bT⟩:=aum (o:=i.o) j Y r u jm cF q3 ce ni Ah X gm d_ ⟨jT q,kN q,none⟩ cap iJ N5 u'
  refine lJ (m:=sb) (bQ:=bQ) ?_ (dj _ _ _ rfl ?_)
  · have jM:l.eval F=.slice (some ⟨jT q,kN q,none⟩) iJ.length cap:=by rw [V.aT az];exact ba
    simp [execOp,resolve,invoke,builtin,V.aT Q,jM,cs]
  · refine ci.set ac ⟨aA.os,aA.tape,aA.output,aA.size,fun d R aw=>aA.block d R (fun r=>aw (by simp [vG,←r]))⟩ J (fun d R=>?_)
    have hB:sb.ownBlock=some d:=by simpa [vG] using R
    rcases bT with bT|bT
    · exact .inl (by simp [vG,←bT,hB])
    · rw [hB] at bT;cases bT;exact .inr (oQ _)
def aq.avO(b:Nat){gm:List Int}(aW:∀ j,(underlying aj).run i.o j=.ok (.slice u) j)(aC:∀ j,(underlying u).run i.o j=.ok (.int .u8) j)(mg:∀ j,(underlying b5).run i.o j=.ok .string j)(Q:aT D e=some X)(ac:C[b]?=some (vG X u gm)) :
    aq i D C (.convert aj b5 e) aX fun m B=>(∃ H,m=uH H)∧B=C:=fun _ l j V ci y pos cT L bN cz dj=>by
  obtain ⟨L,cap,fF,ny,rfl,bq,yr,pT,pP,jb,pg⟩:=ci.cC _ (eF ac)
  have alz:(loadCells ⟨L,0,none⟩ gm.length).run i.o j=.ok (gm.map (Value.int .u8)).toArray j:=by
    have c:=run_loadCells_list (P:=i.o) (w:=j) ⟨L,0,none⟩ (gm.map (Value.int .u8)) (fun k aG bp=>by
      rw [zN,uM,cell_of_row j L k fF u ny bq]
      rw [←pg,k6] at bp
      split at bp
      · simpa using bp
      · cases bp)
    rwa [fc] at c
  have oH:=run_bytesToString j ⟨L,0,none⟩ gm.length cap _ alz
  refine lJ (bQ:=j) ?_ (dj (.string (gm.foldl (fun Z s=>Z.push (UInt8.ofNat s.toNat)) ByteArray.empty)) _ _ ⟨⟨(gm.foldl (fun Z s=>Z.push (UInt8.ofNat s.toNat)) ByteArray.empty).data.toList,?_⟩,rfl⟩ ci)
  · simp [execOp,V.aT Q,convert,aW,mg,aC,oH]
  · simp [uH]
end
end Go.LK
