/-
  Rules and plain laws that the walks use.
-/
import Derived.Test.YtohjlkjhpibkmaaGreatDoorE05
import Derived.KernelRfl
import Derived.Test.YtohjlkjhpibkmaaGreatDoorE02
import Derived.Lib.SlicesCompact
import Derived.Sort.OwnSortedInts
import Derived.Test.YtohjlkjhpibkmaaGreatDoorE04
set_option linter.all false
namespace Go.LK
open Go Go.RowKit
class eG (o:Program) (Y:TypeId) (p:outParam Bool):Prop where c:∀ j,(isAgg Y).run o j=.ok p j
class fY (o:Program) (Y:TypeId) (s:outParam Nat):Prop where c:∀ j,(sizeOf Y).run o j=.ok s j
class ki (o:Program) (Y:TypeId) (m:outParam Value):Prop where c:∀ j,(zeroValue Y).run o j=.ok m j
class o1 (o:Program) (Y:TypeId) (y:outParam TypeDesc):Prop where c:∀ j,(underlying Y).run o j=.ok y j
class aQ (o:Program) (z:FuncId):Prop where c:∀ args j,(callFunc z args).run o j=.ok (.enter z args) j
inductive lq (ar:aB):List aB→Prop
  | c {C}:lq ar (ar :: C)
  | u {b2 C}:lq ar C→lq ar (b2 :: C)
def lq.cC{ar:aB}{C:List aB}(c:lq ar C):∃ b:Nat,C[b]?=some ar:=by
  induction c with
  | c=>exact ⟨0,rfl⟩
  | u _ b6=>obtain ⟨b,ac⟩:=b6;exact ⟨b+1,ac⟩
inductive uV (bt:List Nat):aB→List aB→Nat→Prop
  | c {ar C k}:ur k bt=false→uV bt ar (ar :: C) k
  | Z {X u H bZ C k}:ur k bt=false→uV bt (bF X H bZ) (row X u H bZ :: C) k
  | u {ar b2 C k}:uV bt ar C (k+1)→uV bt ar (b2 :: C) k
inductive gZ (L:Nat):List aB→Nat→(Nat→List Value→TypeId→Prop)→Prop
  | c {ay u C b cO}:cO b ay u→gZ L (ai L ay u :: C) b cO
  | u {C b cO ar}:gZ L C (b+1) cO→gZ L (ar :: C) b cO
def gZ.cC{L:Nat}{C rr:List aB}{b:Nat}{cO:Nat→List Value→TypeId→Prop}(c:gZ L C b cO)(bB:∀ k,rr[b+k]?=C[k]?):∃ b ay u,rr[b]?=some (ai L ay u)∧cO b ay u:=by
  induction c with
  | c aS=>exact ⟨_,_,_,bB 0,aS⟩
  | u _ b6=>exact b6 fun k=>by rw [show ∀ l p:Nat,l+1+p=l+(p+1) from by omega,bB];rfl
def gZ.u6{L:Nat}{C:List aB}{cO:Nat→List Value→TypeId→Prop}(c:gZ L C 0 cO):∃ b ay u,C[b]?=some (ai L ay u)∧cO b ay u:=c.cC fun k=>by rw [uM]
def Nu:Op→Bool
  | .move _=>true
  | .assign _=>true
  | .nilCheck _=>true
  | .unOp .not _ _=>true
  | .binOp .lss ..=>true
  | .binOp .leq ..=>true
  | .binOp .gtr ..=>true
  | .binOp .geq ..=>true
  | .extract ..=>true
  | .fieldAddr ..=>true
  | _=>false
def Nt:List eH→Bool
  | .cE _ :: _=>true
  | .po :: _=>true
  | .code A :: _=>match A with
    | .seq ..=>true
    | .block ..=>true
    | .scope ..=>true
    | .skip=>true
    | .label _=>true
    | .exit _=>true
    | .region _ _ false=>true
    | _=>false
  | _=>false
def y0(o:Program)[jh o](s:Nat):Nat→tJ→List eH→bW→Option (tJ×List eH×bW)
  | 0,n,d,D=>some (n,d,D)
  | z+1,.kj,d,D=>bif Nt d then (match EH D d with
    | some (n,cD)=>y0 o s z n cD D
    | none=>none) else some (.kj,d,D)
  | z+1,.ak _ [],d,D=>y0 o s z .kj d D
  | z+1,.ak l (v :: f),d,D=>bif Nu v.op&&v.guard.isNone then (match qx o s l D v with
    | some du=>y0 o s z (.ak l f) d du
    | none=>none) else some (.ak l (v :: f),d,D)
inductive ln (i:cM):tJ→List eH→bW→List aB→Prop
  | i (d D C):K i d D C→ln i .kj d D C
  | v (l f d D C):w i l f d D C→ln i (.ak l f) d D C
section
variable {i:cM} {d cD:List eH} {D du:bW} {C:List aB} {n ks:tJ} {ak:Array Oper} {bv:List Oper}
def Gi[jh i.o]:∀ {z:Nat} {n:tJ} {d:List eH} {D:bW},y0 i.o i.s z n d D=some (ks,cD,du)→BG i ks cD du C→BG i n d D C
  | 0,n,d,D,c,ag=>by cases c;exact ag
  | z+1,.kj,d,D,c,ag=>by
    unfold y0 at c
    cases bq:Nt d with
    | false=>rw [bq] at c;cases c;exact ag
    | true =>
      rw [bq,cond_true] at c
      split at c
      · rename_i W;exact M3 W (Gi c ag)
      · cases c
  | z+1,.ak l [],d,D,c,ag=>w.nil (Gi (z:=z) (n:=.kj) c ag)
  | z+1,.ak l (v :: f),d,D,c,ag=>by
    unfold y0 at c
    cases bq:(Nu v.op&&v.guard.isNone) with
    | false=>rw [bq] at c;cases c;exact ag
    | true =>
      rw [bq,cond_true] at c
      split at c
      · rename_i W;exact PD W (Gi (n:=.ak l f) c ag)
      · cases c
def ln.cC(c:ln i n d D C):BG i n d D C:=by cases c<;>assumption
def K.go[jh i.o](c:Nt d=true∧∃ n cD du,y0 i.o i.s 100 .kj d D=some (n,cD,du)∧ln i n cD du C):K i d D C:=let ⟨_,_,_,_,c,ag⟩:=c;Gi (n:=.kj) c ag.cC
def ajF:List Oper→Bool
  | []=>true
  | v :: _=>Nu v.op&&v.guard.isNone
def w.go[jh i.o]{l:Array Oper}{f:List Oper}(c:ajF f=true∧∃ n cD du,y0 i.o i.s 100 (.ak l f) d D=some (n,cD,du)∧ln i n cD du C):w i l f d D C:=let ⟨_,_,_,_,c,ag⟩:=c;Gi (n:=.ak l f) c ag.cC
variable {v:Op} {aX:TypeId} {y:Nat} {pos:String} {cT:Array Edge} {m X:Value} {e F aI:Operand} {Y u:TypeId} {H b L off s:Nat} {ay ae kA:List Value} {aG:Value}
def w.SI[eG i.o Y false](c:∃ L off,aT D e=some (.pointer (some ⟨L,off,none⟩))∧gZ L C 0 fun _ ay _=>∃ m,ay[off]?=some m∧Nat.blt y i.s=true∧w i ak bv d ((y,m) :: D) C):w i ak (⟨some y,.load Y e,aX,pos,cT,none⟩ :: bv) d D C :=
  let ⟨_,_,Q,c⟩:=c;let ⟨b,_,_,ac,_,ba,ao,c⟩:=c.u6;w.A (aV.br b eG.c Q ac ba) ao c
def w.SG[eG i.o Y true][fY i.o Y s](c:∃ L off,aT D e=some (.pointer (some ⟨L,off,none⟩))∧gZ L C 0 fun _ ay _=>∃ ae,p0 ay off s=some ae∧Nat.blt y i.s=true∧w i ak bv d ((y,.agg ae.toArray) :: D) C):w i ak (⟨some y,.load Y e,aX,pos,cT,none⟩ :: bv) d D C :=
  let ⟨_,_,Q,c⟩:=c;let ⟨b,_,_,ac,_,ba,ao,c⟩:=c.u6;w.A (aV.nG b eG.c fY.c Q ac ba) ao c
def w.SJ[eG i.o Y false](c:∃ L off,aT D e=some (.pointer (some ⟨L,off,none⟩))∧gZ L i.dO 0 fun _ ay _=>∃ m,ay[off]?=some m∧Nat.blt y i.s=true∧w i ak bv d ((y,m) :: D) C):w i ak (⟨some y,.load Y e,aX,pos,cT,none⟩ :: bv) d D C :=
  let ⟨_,_,Q,c⟩:=c;let ⟨b,_,_,ac,_,ba,ao,c⟩:=c.u6;w.A (aV.gb b eG.c Q ac ba) ao c
def w.aBS[eG i.o Y true][fY i.o Y s](c:∃ L off,aT D e=some (.pointer (some ⟨L,off,none⟩))∧gZ L i.dO 0 fun _ ay _=>∃ ae,p0 ay off s=some ae∧Nat.blt y i.s=true∧w i ak bv d ((y,.agg ae.toArray) :: D) C):w i ak (⟨some y,.load Y e,aX,pos,cT,none⟩ :: bv) d D C :=
  let ⟨_,_,Q,c⟩:=c;let ⟨b,_,_,ac,_,ba,ao,c⟩:=c.u6;w.A (aV.Xe b eG.c fY.c Q ac ba) ao c
def w.cl[fY i.o Y s](c:∃ L off aG,aT D e=some (.pointer (some ⟨L,off,none⟩))∧aT D F=some aG∧gZ L C 0 fun b ay u=>∃ ae kA,qS aG=some ae∧ae.length=s∧rf ay off ae=some kA∧(ae.all Value.oneCell')=true∧w i ak bv d D (C.set b (ai L kA u))):w i ak (⟨none,.store Y e F,aX,pos,cT,none⟩ :: bv) d D C :=
  let ⟨_,_,_,Q,az,c⟩:=c;let ⟨b,_,_,ac,_,_,aS,aw,W,G,c⟩:=c.u6;w.cq (aq.dC b fY.c Q az ac aS aw G W) (fun _ _ r=>r ▸ c)
def w.Hg[ki i.o Y aG](c:∃ ay,qS aG=some ay∧Nat.blt y i.s=true∧∀ L,w i ak bv d ((y,.n L) :: D) (ai L ay Y :: C)):w i ak (⟨some y,.alloc Y,aX,pos,cT,none⟩ :: bv) d D C :=
  let ⟨_,aS,ao,c⟩:=c;w.f (aq.iS ki.c aS) ao aB6
def w.Sp(c:∃ aG ay,aT D e=some aG∧qS aG=some ay∧Nat.blt y i.s=true∧∀ L,w i ak bv d ((y,.n L) :: D) (ai L ay Y :: C)):w i ak (⟨some y,.box Y e,aX,pos,cT,none⟩ :: bv) d D C :=
  let ⟨_,_,Q,aS,ao,c⟩:=c;w.f (aq.pF Q aS) ao aB6
inductive lp:Value→(List Value→Prop)→Prop
  | i {m dc bN}:qS m=some dc→bN dc→lp m bN
  | v {m bN}:m.oneCell'=true→bN [m]→lp m bN
def lp.cC{m:Value}{bN:List Value→Prop}(c:lp m bN):∃ dc,m.cells=dc.toArray∧bN dc:=by
  cases c with
  | i c R=>exact ⟨_,Cg c,R⟩
  | v c R=>exact ⟨_,JI c,R⟩
def mV(D:bW)(jq:Array (Nat×Nat)):List (Nat×Operand)→List Value→(List Value→Prop)→Prop
  | [],ay,cO=>cO ay
  | (b,e) :: af,ay,cO=>∃ m n,aT D e=some m∧jq[b]?=some n∧lp m fun dc=>∃ kA,dc.length=n.2∧rf ay n.1 dc=some kA∧mV D jq af kA cO
def mV.nil{D:bW}{jq:Array (Nat×Nat)}{ay:List Value}{cO:List Value→Prop}(c:cO ay):mV D jq [] ay cO:=c
def mV.cons{D:bW}{jq:Array (Nat×Nat)}{ay:List Value}{cO:List Value→Prop}{b:Nat}{e:Operand}{af:List (Nat×Operand)}(c:∃ m n,aT D e=some m∧jq[b]?=some n∧lp m fun dc=>∃ kA,dc.length=n.2∧rf ay n.1 dc=some kA∧mV D jq af kA cO):mV D jq ((b,e) :: af) ay cO:=c
def Zt(t:Nat):∀ (dc ay:List Value) (v:Nat),t+v+dc.length≤ay.length→(dc.zipIdx v).foldl (fun (l:Array Value) (A:Value×Nat)=>l.setIfInBounds (t+A.2) A.1) ay.toArray=(ay.take (t+v)++dc++ay.drop (t+v+dc.length)).toArray
  | [],ay,v,_=>by simp
  | j :: dc,ay,v,c=>by
    rw [e6] at c
    rw [List.zipIdx_cons,DA,List.setIfInBounds_toArray,Zt t dc _ (v+1) (by rw [ol];omega)]
    congr 1
    rw [List.drop_set_of_lt E,←QR,zb (by rw [ol];omega),List.getElem_set_self,List.take_set_of_le (oQ _),e6]
    simp [Nat.add_comm,Nat.add_left_comm]
def mV.cC{D:bW}{jq:Array (Nat×Nat)}:∀ {af:List (Nat×Operand)} {ay:List Value} {cO:List Value→Prop},mV D jq af ay cO→∃ ae Z,Cm D af=some ae∧Instr.fill (jq[·]?) ay.toArray ae=some Z.toArray∧cO Z
  | [],ay,cO,c=>⟨[],ay,rfl,rfl,c⟩
  | (b,e) :: af,ay,cO,c=>by
    obtain ⟨m,⟨off,H⟩,Q,ad,ba⟩:=c
    obtain ⟨dc,bU,kA,S,W,c⟩:=ba.cC
    obtain ⟨ae,Z,G,J,aA⟩:=mV.cC c
    obtain ⟨dQ,bP⟩:=Bc W
    refine ⟨(b,m) :: ae,Z,by simp [Cm,Q,G],?_,aA⟩
    have ni:m.cells.size=dc.length:=by rw [bU];simp
    have:=Zt off dc ay 0 E
    unfold Instr.fill
    simp only [ad]
    rw [be (by simp at S bP ⊢;rw [ni];omega),bU,←Array.foldl_toList,Array.toList_zipIdx]
    rw [DD] at this
    show Instr.fill _ (List.foldl (fun (l:Array Value) (A:Value×Nat)=>l.setIfInBounds (off+A.2) A.1) ay.toArray dc.zipIdx) ae=_
    rw [this,dQ]
    exact J
class eR (o:Program) (Y:TypeId) (eU:outParam Value) (jq:outParam (Array (Nat×Nat))):Prop where
  c:∃ aH,(∀ j,(underlying Y).run o j=.ok (.struct aH) j)∧(∀ j,(zeroValue Y).run o j=.ok eU j)∧∀ j,(aH.mapM (m:=Sem) fun z=>Functor.map (Prod.mk z.offset) (sizeOf z.type)).run o j=.ok jq j
theorem eR.eo{o:Program}{aH:Array Field}{eU:Value}{jq:Array (Nat×Nat)}(G:∀ j,(underlying Y).run o j=.ok (.struct aH) j)(J:∀ j,(zeroValue Y).run o j=.ok eU j)(aA:∀ j,(aH.mapM (m:=Sem) fun z=>Functor.map (Prod.mk z.offset) (sizeOf z.type)).run o j=.ok jq j):eR o Y eU jq:=⟨_,G,J,aA⟩
def w.eR{eU:Value}{jq:Array (Nat×Nat)}[av:eR i.o Y eU jq]{lD:List (Nat×Operand)}(c:∃ aI,qS eU=some aI∧Nat.blt y i.s=true∧mV D jq lD aI fun Z=>w i ak bv d ((y,.agg Z.toArray) :: D) C):w i ak (⟨some y,.build Y lD.toArray,aX,pos,cT,none⟩ :: bv) d D C:=by
  obtain ⟨aI,ce,ao,c⟩:=c
  obtain ⟨ae,Z,ad,bc,c⟩:=c.cC
  obtain ⟨aH,G,J,aA⟩:=av.c
  exact w.n (U.build ae Z jq G J aA (If ad) (by rw [Cg ce];exact bc)) ao c
def w.gt{k:Nat}{db:Bool}{r:Option Nat}(c:y7 ak i.s D k db=some true∧w i ak (⟨r,v,aX,pos,cT,none⟩ :: bv) d D C):w i ak (⟨r,v,aX,pos,cT,some (k,db)⟩ :: bv) d D C:=fun ok l j V W=>by
  have J:=c.2 ok l j V W
  have bU:Region.wanted (⟨r,v,aX,pos,cT,some (k,db)⟩:Oper) (yielded ak l.tmps)=true:=sc c.1 V rfl
  have qu:Region.wanted (⟨r,v,aX,pos,cT,none⟩:Oper) (yielded ak l.tmps)=true:=rfl
  unfold wpList at J ⊢
  rw [ee qu] at J
  rw [ee bU]
  exact J
def w.ou(c:∃ t s,aT D e=some (.b t)∧aT D F=some (.b s)∧(-9223372036854775808≤t+s∧t+s≤9223372036854775807)∧Nat.blt y i.s=true∧w i ak bv d ((y,.b (t+s)) :: D) C):w i ak (⟨some y,.binOp .add Y e F Y,aX,pos,cT,none⟩ :: bv) d D C :=
  let ⟨_,_,Q,az,av,ao,c⟩:=c;w.n (U.hJ Q az av) ao c
def w.SR(c:∃ t s,aT D e=some (.b t)∧aT D F=some (.b s)∧(-9223372036854775808≤t-s∧t-s≤9223372036854775807)∧Nat.blt y i.s=true∧w i ak bv d ((y,.b (t-s)) :: D) C):w i ak (⟨some y,.binOp .sub Y e F Y,aX,pos,cT,none⟩ :: bv) d D C :=
  let ⟨_,_,Q,az,av,ao,c⟩:=c;w.n (U.lG Q az av) ao c
def K.jQ(c:∃ n cD,EH D d=some (n,cD)∧ln i n cD D C):K i d D C:=let ⟨_,_,c,ag⟩:=c;M3 c ag.cC
def GA:List Oper→Option (Oper×List Oper)
  | []=>none
  | v :: f=>some (v,f)
def w.j{f:List Oper}(c:∃ v Z,GA f=some (v,Z)∧w i ak (v :: Z) d D C):w i ak f d D C:=by
  exact Si
def w.cn{v:Oper}(c:w i ak (v :: bv) d D C):w i ak (v :: bv) d D C:=c
def w.jQ[jh i.o]{v:Oper}(c:∃ du,qx i.o i.s ak D v=some du∧w i ak bv d du C):w i ak (v :: bv) d D C:=let ⟨_,c,ag⟩:=c;PD c ag
inductive nX (cz:Prop):Prop
  | mk:cz→nX cz
def nX.lH{cz:Prop}(c:nX cz):cz:=by cases c;assumption
inductive SE (bt:List Nat):Prop
  | mk
def jC.Z{bt:List Nat}{en:List aB}{ar:aB}(bh:lq ar i.dO)(c:jC i C bt en):jC i C bt (ar :: en):=let ⟨b,ac⟩:=bh.cC;jC.b0 b ac c
def uV.cC{bt:List Nat}{ar:aB}{C rr:List aB}{k:Nat}(c:uV bt ar C k)(bB:∀ b:Nat,rr[k+b]?=C[b]?):∃ (b:Nat) (b2:aB),rr[b]?=some b2∧ur b bt=false∧∀ j,b2.holds j→ar.holds j∧∀ d∈ar.dT,d∈b2.dT:=by
  induction c with
  | c aw=>exact ⟨_,_,bB 0,aw,vI⟩
  | Z aw=>exact ⟨_,_,bB 0,aw,jz⟩
  | u _ b6=>exact b6 fun b=>by rw [show ∀ l p:Nat,l+1+p=l+(p+1) from by omega,bB];rfl
def jC.t{bt:List Nat}{en:List aB}{ar:aB}(bh:uV bt ar C 0)(c:jC i C bt en):jC i C bt (ar :: en):=let ⟨b,_,ac,aw,av⟩:=bh.cC (rr:=C) (fun b=>by rw [uM]);jC.eo b av ac aw c
def w.D0{z:FuncId}[aQ i.o z]{dq:List Operand}{eW:Array TypeId}(c:∃ bt ae en dW post,SE bt∧M i.o z (List.toArray ae) en dW post∧dn D dq=some ae∧Nat.blt y i.s=true∧∃ ah,Do C bt=some (dW,ah)∧jC i C bt en∧∀ m de,post m de→w i ak bv d ((y,m) :: D) (de++ah)):w i ak (⟨some y,.call { callee:=.value (.func z),args:=dq.toArray,argTypes:=eW },aX,pos,cT,none⟩ :: bv) d D C :=
  let ⟨bt,_,_,_,_,_,u,Q,ao,_,aW,cs,c⟩:=c;w.f (aq.fl aQ.c u bt Q aW cs) ao G6
def w.aB7{z:FuncId}[aQ i.o z]{dq:List Operand}{eW:Array TypeId}(c:∃ bt ae en dW post,SE bt∧M i.o z (List.toArray ae) en dW post∧dn D dq=some ae∧∃ ah,Do C bt=some (dW,ah)∧jC i C bt en∧∀ m de,post m de→w i ak bv d D (de++ah)):w i ak (⟨none,.call { callee:=.value (.func z),args:=dq.toArray,argTypes:=eW },aX,pos,cT,none⟩ :: bv) d D C :=
  let ⟨bt,_,_,_,_,_,u,Q,_,aW,cs,c⟩:=c;w.cq (aq.fl aQ.c u bt Q aW cs) G6
def K.Sr{cU pK:Code}(c:∃ (n:Prop) (_:Decidable n),aT D e=some (.bool (decide n))∧(n→K i (.code cU :: d) D C)∧(¬n→K i (.code pK :: d) D C)):K i (.code (.cond e cU pK) :: d) D C:=let ⟨_,_,Q,G,J⟩:=c;K.jt Q G J
inductive we (s:Nat):Prop
  | mk
def we.pl{s:Nat}(_:we (s+1)):we s:=.mk
def SQ{o cz:Prop}(A:cz)(c:nX cz→o:=by
  intro nD
  repeat with_reducible intro sH
  repeat first
    | ((with_reducible refine K.go ?_);refine ⟨rfl,_,_,_,rfl,?_⟩;first|refine ln.v _ _ _ _ _ ?_|refine ln.i _ _ _ ?_)
    | ((with_reducible refine w.go ?_);refine ⟨rfl,_,_,_,rfl,?_⟩;first|refine ln.v _ _ _ _ _ ?_|refine ln.i _ _ _ ?_)
    | ((fail_if_success (with_reducible refine w.cn ?_));(with_reducible refine w.j ?_);refine ⟨_,_,rfl,?_⟩)
    | ((with_reducible refine K.jQ ?_);refine ⟨_,_,rfl,?_⟩;first|refine ln.v _ _ _ _ _ ?_|refine ln.i _ _ _ ?_)
    | ((with_reducible refine w.jQ ?_);refine ⟨_,rfl,?_⟩)
    | ((try ((with_reducible refine w.gt ?_);refine ⟨rfl,?_⟩));(with_reducible refine w.SI ?_);refine ⟨_,_,rfl,?_⟩;(repeat first|refine gZ.c ?_|refine gZ.u ?_);refine ⟨_,rfl,rfl,?_⟩)
    | ((try ((with_reducible refine w.gt ?_);refine ⟨rfl,?_⟩));(with_reducible refine w.SG ?_);refine ⟨_,_,rfl,?_⟩;(repeat first|refine gZ.c ?_|refine gZ.u ?_);refine ⟨_,rfl,rfl,?_⟩)
    | ((with_reducible refine w.cl ?_);refine ⟨_,_,_,rfl,rfl,?_⟩;(repeat first|refine gZ.c ?_|refine gZ.u ?_);refine ⟨_,_,rfl,rfl,rfl,?_,?_⟩;first|rfl|(simp only [k8,ri,jV, *]<;>rfl))
    | ((try ((with_reducible refine w.gt ?_);refine ⟨rfl,?_⟩));(with_reducible refine w.Hg ?_);refine ⟨_,rfl,rfl,?_⟩;intro sH)
    | ((try ((with_reducible refine w.gt ?_);refine ⟨rfl,?_⟩));(with_reducible refine w.Sp ?_);refine ⟨_,_,rfl,rfl,rfl,?_⟩;intro sH)
    | ((try ((with_reducible refine w.gt ?_);refine ⟨rfl,?_⟩));(with_reducible refine w.eR ?_);refine ⟨_,rfl,rfl,?_⟩;(repeat ((with_reducible refine mV.cons ?_);refine ⟨_,_,rfl,rfl,?_⟩;(first|refine lp.i rfl ?_|refine lp.v bO ?_);refine ⟨_,rfl,rfl,?_⟩));refine mV.nil ?_)
    | ((try ((with_reducible refine w.gt ?_);refine ⟨rfl,?_⟩));(with_reducible refine w.SJ ?_);refine ⟨_,_,rfl,?_⟩;(repeat first|refine gZ.c ?_|refine gZ.u ?_);refine ⟨_,rfl,rfl,?_⟩)
    | ((try ((with_reducible refine w.gt ?_);refine ⟨rfl,?_⟩));(with_reducible refine w.aBS ?_);refine ⟨_,_,rfl,?_⟩;(repeat first|refine gZ.c ?_|refine gZ.u ?_);refine ⟨_,rfl,rfl,?_⟩)
    | ((try ((with_reducible refine w.gt ?_);refine ⟨rfl,?_⟩));(with_reducible refine w.ou ?_);refine ⟨_,_,rfl,rfl,by omega,rfl,?_⟩)
    | ((try ((with_reducible refine w.gt ?_);refine ⟨rfl,?_⟩));(with_reducible refine w.SR ?_);refine ⟨_,_,rfl,rfl,by omega,rfl,?_⟩)
  repeat revert sH
  exact nD.lH):o:=c (.mk A)
def I(s:Nat){o cz:Prop}(A:cz)(c:we s→nX cz→o:=by
  intro ip nD
  repeat with_reducible intro sH
  repeat first
    | ((with_reducible refine K.go ?_);refine ⟨rfl,_,_,_,rfl,?_⟩;first|refine ln.v _ _ _ _ _ ?_|refine ln.i _ _ _ ?_)
    | ((with_reducible refine w.go ?_);refine ⟨rfl,_,_,_,rfl,?_⟩;first|refine ln.v _ _ _ _ _ ?_|refine ln.i _ _ _ ?_)
    | ((fail_if_success (with_reducible refine w.cn ?_));(with_reducible refine w.j ?_);refine ⟨_,_,rfl,?_⟩)
    | ((with_reducible refine K.jQ ?_);refine ⟨_,_,rfl,?_⟩;first|refine ln.v _ _ _ _ _ ?_|refine ln.i _ _ _ ?_)
    | ((with_reducible refine w.jQ ?_);refine ⟨_,rfl,?_⟩)
    | (replace ip:=ip.pl;(try ((with_reducible refine w.gt ?_);refine ⟨rfl,?_⟩));(with_reducible refine w.SI ?_);refine ⟨_,_,rfl,?_⟩;(repeat first|refine gZ.c ?_|refine gZ.u ?_);refine ⟨_,rfl,rfl,?_⟩)
    | (replace ip:=ip.pl;(try ((with_reducible refine w.gt ?_);refine ⟨rfl,?_⟩));(with_reducible refine w.SG ?_);refine ⟨_,_,rfl,?_⟩;(repeat first|refine gZ.c ?_|refine gZ.u ?_);refine ⟨_,rfl,rfl,?_⟩)
    | (replace ip:=ip.pl;(with_reducible refine w.cl ?_);refine ⟨_,_,_,rfl,rfl,?_⟩;(repeat first|refine gZ.c ?_|refine gZ.u ?_);refine ⟨_,_,rfl,rfl,rfl,?_,?_⟩;first|rfl|(simp only [k8,ri,jV, *]<;>rfl))
    | (replace ip:=ip.pl;(try ((with_reducible refine w.gt ?_);refine ⟨rfl,?_⟩));(with_reducible refine w.Hg ?_);refine ⟨_,rfl,rfl,?_⟩;intro sH)
    | (replace ip:=ip.pl;(try ((with_reducible refine w.gt ?_);refine ⟨rfl,?_⟩));(with_reducible refine w.Sp ?_);refine ⟨_,_,rfl,rfl,rfl,?_⟩;intro sH)
    | (replace ip:=ip.pl;(try ((with_reducible refine w.gt ?_);refine ⟨rfl,?_⟩));(with_reducible refine w.eR ?_);refine ⟨_,rfl,rfl,?_⟩;(repeat ((with_reducible refine mV.cons ?_);refine ⟨_,_,rfl,rfl,?_⟩;(first|refine lp.i rfl ?_|refine lp.v bO ?_);refine ⟨_,rfl,rfl,?_⟩));refine mV.nil ?_)
    | (replace ip:=ip.pl;(try ((with_reducible refine w.gt ?_);refine ⟨rfl,?_⟩));(with_reducible refine w.SJ ?_);refine ⟨_,_,rfl,?_⟩;(repeat first|refine gZ.c ?_|refine gZ.u ?_);refine ⟨_,rfl,rfl,?_⟩)
    | (replace ip:=ip.pl;(try ((with_reducible refine w.gt ?_);refine ⟨rfl,?_⟩));(with_reducible refine w.aBS ?_);refine ⟨_,_,rfl,?_⟩;(repeat first|refine gZ.c ?_|refine gZ.u ?_);refine ⟨_,rfl,rfl,?_⟩)
    | (replace ip:=ip.pl;(try ((with_reducible refine w.gt ?_);refine ⟨rfl,?_⟩));(with_reducible refine w.ou ?_);refine ⟨_,_,rfl,rfl,by omega,rfl,?_⟩)
    | (replace ip:=ip.pl;(try ((with_reducible refine w.gt ?_);refine ⟨rfl,?_⟩));(with_reducible refine w.SR ?_);refine ⟨_,_,rfl,rfl,by omega,rfl,?_⟩)
  repeat revert sH
  exact nD.lH):o:=c .mk (.mk A)
def B3(bt:List Nat){o cz:Prop}{n:Program}{z:FuncId}{ae:Array Value}{dO C:List aB}{post:Value→List aB→Prop}(u:M n z ae dO C post)(A:cz)(c:SE bt→M n z ae dO C post→nX cz→o:=by
  intro WJ oh nD
  refine SQ ?_
  repeat with_reducible intro yQ
  try ((with_reducible refine w.gt ?_);refine ⟨rfl,?_⟩)
  first
    | ((with_reducible refine w.D0 ?_);refine ⟨_,_,_,_,_,WJ,oh,rfl,rfl,_,rfl,?_⟩)
    | ((with_reducible refine w.aB7 ?_);refine ⟨_,_,_,_,_,WJ,oh,rfl,_,rfl,?_⟩)
  refine ⟨?_,?_⟩
  repeat first|exact jC.nil|(refine jC.Z ?_ ?_;focus ((repeat first|exact lq.c|refine lq.u ?_);done))|(refine jC.t ?_ ?_;focus ((repeat first|exact uV.c rfl|exact uV.Z rfl|refine uV.u ?_);done))
  first|rintro _ _ ⟨rfl,rfl⟩|rintro _ _ ⟨yQ,rfl,rfl⟩|skip
  repeat revert yQ
  exact nD.lH):o:=c .mk u (.mk A)
def Tf{o cz:Prop}{n:Program}{z:FuncId}{ae:Array Value}{dO C:List aB}{post:Value→List aB→Prop}(u:M n z ae dO C post)(A:cz)(c:M n z ae dO C post→nX cz→o:=by intro oh nD;refine B3 [] oh ?_;exact nD.lH):o:=c u (.mk A)
def Ss{o Ef Eg:Prop}(ep:Ef)(fu:Eg)(c:nX Ef→nX Eg→o:=by
  intro Nx Ny
  refine SQ ?_
  repeat with_reducible intro tV
  (with_reducible refine K.Sr ?_)
  refine ⟨_,_,rfl,?_,?_⟩
  · intro tV
    repeat revert tV
    exact Nx.lH
  · intro tV
    repeat revert tV
    exact Ny.lH):o:=c (.mk ep) (.mk fu)
end
end Go.LK
namespace Go.LK
open Go Go.RowKit
inductive iQ (ar:aB):List aB→List aB→Prop
  | c {C}:iQ ar (ar :: C) C
  | u {b2 C bL}:iQ ar C bL→iQ ar (b2 :: C) (b2 :: bL)
inductive sr:List aB→List aB→List aB→Prop
  | s {C}:sr [] C C
  | i {ar dW C bL ah}:iQ ar C bL→sr dW bL ah→sr (ar :: dW) C ah
def y9:List aB→Option (aB×List aB)
  | []=>none
  | ar :: C=>some (ar,C)
def Bn{C Z:List aB}{b2:aB}(c:y9 C=some (b2,Z)):C=b2 :: Z:=by
  cases C with
  | nil=>cases c
  | cons l f=>cases c;rfl
def iQ.j{ar:aB}{C bL:List aB}(c:∃ b2 Z,y9 C=some (b2,Z)∧iQ ar (b2 :: Z) bL):iQ ar C bL:=let ⟨_,_,r,c⟩:=c;Bn r ▸ c
def gZ.j{L:Nat}{C:List aB}{b:Nat}{cO:Nat→List Value→TypeId→Prop}(c:∃ b2 Z,y9 C=some (b2,Z)∧gZ L (b2 :: Z) b cO):gZ L C b cO:=let ⟨_,_,r,c⟩:=c;Bn r ▸ c
def lq.j{ar:aB}{C:List aB}(c:∃ b2 Z,y9 C=some (b2,Z)∧lq ar (b2 :: Z)):lq ar C:=let ⟨_,_,r,c⟩:=c;Bn r ▸ c
def r'(b d:Nat):Nat:=if d < b then d else d+1
def ava{b d:Nat}:r' b d≠b:=by unfold r';split<;>omega
def au'{b:Nat}{l p:Nat}(c:r' b l=r' b p):l=p:=by unfold r' at c;split at c<;>split at c<;>omega
def iQ.cC{ar:aB}{C bL:List aB}(c:iQ ar C bL):∃ b:Nat,C[b]?=some ar∧∀ d:Nat,C[r' b d]?=bL[d]?:=by
  induction c with
  | c=>exact ⟨0,rfl,fun d=>by simp [r']⟩
  | u _ b6 =>
    obtain ⟨b,ac,R⟩:=b6
    refine ⟨b+1,ac,fun d=>?_⟩
    cases d with
    | zero=>simp [r']
    | succ d =>
      have:=R d
      unfold r' at this ⊢
      split at this
      · rw [ee E];simpa using this
      · rw [be E];simpa using this
def Nl{bi mU:Type}{z L:bi→Option mU}:∀ {f:List bi},(∀ l∈f,z l=L l)→f.filterMap z=f.filterMap L
  | [],_=>rfl
  | l :: f,c=>by rw [uL,uL,c l oU,Nl (f:=f) fun p av=>c p (by simp [av])]
def Zg{C bL:List aB}{b:Nat}(c:∀ d:Nat,C[r' b d]?=bL[d]?):∀ bt:List Nat,LK.dB C (bt.map (r' b))=LK.dB bL bt:=fun bt=>by
  unfold LK.dB
  rw [Q4]
  exact Nl fun d _=>c d
def Qb:∀ C:List aB,LK.dB C (List.range C.length)=C
  | []=>rfl
  | ar :: C=>by
    have:=Qb C
    unfold LK.dB at this ⊢
    rw [e6,GO,uL,Q4]
    simp only [DE]
    exact dz (ar :: ·) (Eq.trans (Nl fun d _=>by simp) this)
def sr.cC{dW C ah:List aB}(c:sr dW C ah):∃ bt ec:List Nat,(bt++ec).Nodup∧LK.dB C bt=dW∧LK.dB C ec=ah:=by
  induction c with
  | s=>exact ⟨[],_,tp,rfl,Qb _⟩
  | i bA _ b6 =>
    obtain ⟨bt,ec,aw,G,J⟩:=b6
    obtain ⟨b,ac,R⟩:=bA.cC
    refine ⟨b :: bt.map (r' b),ec.map (r' b),?_,?_,?_⟩
    · rw [oo,←gR,kP]
      refine ⟨fun c=>?_,?_⟩
      · obtain ⟨d,_,r⟩:=bx.1 c;exact ava r
      · exact List.Pairwise.map _ (fun l p lw r=>lw (au' r)) aw
    · have:=Zg R bt
      unfold LK.dB at this ⊢
      rw [uL,ac]
      show _ :: _=_
      rw [this];exact dz _ G
    · rw [Zg R,J]
inductive n1:List aB→List aB→Prop
  | s {C}:n1 [] C
  | i {ar dW C bL}:iQ ar C bL→n1 dW bL→n1 (ar :: dW) C
def n1.cC{dW C:List aB}(c:n1 dW C):∃ ah,sr dW C ah:=by
  induction c with
  | s=>exact ⟨_,.s⟩
  | i bA _ b6=>obtain ⟨ah,c⟩:=b6;exact ⟨ah,.i bA c⟩
def n1.dB{dW C:List aB}(c:n1 dW C):∃ bt:List Nat,bt.Nodup∧LK.dB C bt=dW:=let ⟨_,c⟩:=c.cC;let ⟨bt,_,aw,G,_⟩:=c.cC;⟨bt,(lm.1 aw).1,G⟩
inductive mA:aB→List aB→Prop
  | c {ar ah}:mA ar (ar :: ah)
  | Z {X u H bZ ah}:mA (bF X H bZ) (row X u H bZ :: ah)
  | u {ar b2 ah}:mA ar ah→mA ar (b2 :: ah)
def mA.cC{ar:aB}{ah:List aB}(c:mA ar ah):∃ b2,b2∈ah∧∀ j,b2.holds j→ar.holds j∧∀ d∈ar.dT,d∈b2.dT:=by
  induction c with
  | c=>exact ⟨_,p5,vI⟩
  | Z=>exact ⟨_,p5,jz⟩
  | u _ b6=>obtain ⟨b2,av,c⟩:=b6;exact ⟨b2,gS _ av,c⟩
def mA.j{ar:aB}{C:List aB}(c:∃ b2 Z,y9 C=some (b2,Z)∧mA ar (b2 :: Z)):mA ar C:=let ⟨_,_,r,c⟩:=c;Bn r ▸ c
inductive mC (i:cM) (ah:List aB):List aB→Prop
  | s:mC i ah []
  | Z {ar en}:lq ar i.dO→mC i ah en→mC i ah (ar :: en)
  | v {ar en}:mA ar ah→mC i ah en→mC i ah (ar :: en)
  | p {ar b2 en} (av:∀ j,b2.holds j→ar.holds j∧∀ d∈ar.dT,d∈b2.dT) (bh:lq b2 ah) (bA:mC i ah en):mC i ah (ar :: en)
def Zf{C:List aB}{ec:List Nat}{b2:aB}(c:b2∈LK.dB C ec):∃ k,k∈ec∧C[k]?=some b2:=by
  unfold LK.dB at c
  obtain ⟨k,ag,r⟩:=vT.1 c
  exact ⟨k,ag,r⟩
def mC.ok{i:cM}{C dW ah en:List aB}{bt ec:List Nat}(aw:(bt++ec).Nodup)(G:LK.dB C bt=dW)(J:LK.dB C ec=ah)(c:mC i ah en):eI i C dW en:=by
  induction c with
  | s=>exact eI.nil
  | Z bh _ b6=>obtain ⟨b,ac⟩:=bh.cC;exact eI.b0 b ac bt G b6
  | p av bh _ b6 =>
    obtain ⟨b,ac⟩:=bh.cC
    obtain ⟨k,ag,r⟩:=Zf (J.symm ▸ eF ac)
    exact act
  | v bh _ b6 =>
    obtain ⟨b2,dP,av⟩:=bh.cC
    obtain ⟨k,ag,r⟩:=Zf (J.symm ▸ dP)
    exact act
section
variable {i:cM} {d:List eH} {D du:bW} {C:List aB} {ak:Array Oper} {bv:List Oper} {v:Op} {aX:TypeId} {y:Nat} {pos:String} {cT:Array Edge}
def nZ(i:cM)(D:bW)(C:List aB)(v:Op)(aX:TypeId)(bN:Value→List aB→Prop):Prop:=∃ ah,aq i D C v aX ah∧∀ m B,ah m B→bN m B
def w.FJ(c:Nat.blt y i.s=true∧nZ i D C v aX fun m B=>w i ak bv d ((y,m) :: D) B):w i ak (⟨some y,v,aX,pos,cT,none⟩ :: bv) d D C:=let ⟨ao,_,c,R⟩:=c;w.f c ao R
def w.FK(c:nZ i D C v aX fun _ B=>w i ak bv d D B):w i ak (⟨none,v,aX,pos,cT,none⟩ :: bv) d D C:=let ⟨_,c,R⟩:=c;w.cq c R
section
variable {Y:bW→List aB→Prop} {b:Nat} {c6:List Nat} {fo:List (Nat×Bool)} {bN:List aB}
def aL.FJ(c:∃ y v aX pos cT,ak[b]?=some ⟨some y,v,aX,pos,cT,none⟩∧Nat.blt y i.s=true∧nZ i D C v aX fun m B=>gr i ak Y b c6 fo ((y,m) :: D) bN B):aL i ak Y c6 ((b,true) :: fo) D bN C:=let ⟨_,_,_,_,_,ac,ao,_,c,R⟩:=c;aL.f ac c ao R
def aL.FK(c:∃ v aX pos cT,ak[b]?=some ⟨none,v,aX,pos,cT,none⟩∧nZ i D C v aX fun _ B=>gr i ak Y b c6 fo D bN B):aL i ak Y c6 ((b,true) :: fo) D bN C:=let ⟨_,_,_,_,ac,_,c,R⟩:=c;aL.cq ac c R
end
inductive su (n:Prop):Prop
  | mk:n→su n
def su.W3{n:Prop}(c:su n):su n:=c
def su.lH{n:Prop}(c:su n):n:=by cases c;assumption
inductive Sq (i:cM) (z:FuncId) (ae:List Value) (C:List aB) (bN:Value→List aB→Prop):Prop
  | mk {en dW ah:List aB} {post:Value→List aB→Prop} (bA:M i.o z ae.toArray en dW post) (cF:sr dW C ah) (cs:mC i ah en) (a6:su (∀ m de,post m de→bN m (de++ah)))
def nZ.fl{z:FuncId}[aQ i.o z]{dq:List Operand}{eW:Array TypeId}{bN:Value→List aB→Prop}(c:∃ ae,dn D dq=some ae∧Sq i z ae C bN):nZ i D C (.call { callee:=.value (.func z),args:=dq.toArray,argTypes:=eW }) aX bN:=by
  obtain ⟨ae,Q,⟨bA,cF,cs,a6⟩⟩:=c
  obtain ⟨bt,ec,aw,G,J⟩:=cF.cC
  exact ⟨_,aq.call ae aQ.c (wH Q) bA bt ec aw G _ J (cs.ok aw G J),by rintro _ _ ⟨_,ad,rfl⟩;exact a6.lH _ _ ad⟩
def wj(i:cM)(D:bW)(C:List aB)(Z:ResultVar)(cO:Value→Prop):Prop:=∃ m,SO i D C Z m∧cO m
def rx(i:cM)(D:bW)(C:List aB):List ResultVar→(List Value→Prop)→Prop
  | [],cO=>cO []
  | Z :: ho,cO=>wj i D C Z fun m=>rx i D C ho fun ae=>cO (m :: ae)
def rx.cC:∀ {ho:List ResultVar} {cO:List Value→Prop},rx i D C ho cO→∃ ae,zB i D C ho ae∧cO ae
  | [],_,c=>⟨[],trivial,c⟩
  | _ :: _,_,⟨m,ba,c⟩=>let ⟨ae,G,J⟩:=rx.cC c;⟨m :: ae,⟨ba,G⟩,J⟩
def rx.apU{cO:List Value→Prop}(c:cO []):rx i D C [] cO:=c
def rx.eV{Z:ResultVar}{ho:List ResultVar}{cO:List Value→Prop}(c:wj i D C Z fun m=>rx i D C ho fun ae=>cO (m :: ae)):rx i D C (Z :: ho) cO:=c
variable {cO:Value→Prop} {u p s:Nat} {Y:TypeId}
def wj.awl(c:∃ m,gx D u=some m∧cO m):wj i D C (.tmp u) cO:=c
def wj.on[eG i.o Y false](c:∃ L off,gx D p=some (.pointer (some ⟨L,off,none⟩))∧gZ L C 0 fun _ ay _=>∃ m,ay[off]?=some m∧cO m):wj i D C (.cell p Y) cO :=
  let ⟨_,_,Q,c⟩:=c;let ⟨b,_,_,ac,_,ba,c⟩:=c.u6;⟨_,⟨_,_,0,_,_,Q,eZ.ai b ac,(uM _).symm,fr.one eG.c ba⟩,c⟩
def wj.agl[eG i.o Y true][fY i.o Y s](c:∃ L off,gx D p=some (.pointer (some ⟨L,off,none⟩))∧gZ L C 0 fun _ ay _=>∃ ae,p0 ay off s=some ae∧cO (.agg ae.toArray)):wj i D C (.cell p Y) cO :=
  let ⟨_,_,Q,c⟩:=c;let ⟨b,_,_,ac,ae,ba,c⟩:=c.u6;⟨_,⟨_,_,0,_,_,Q,eZ.ai b ac,(uM _).symm,fr.agg ae eG.c fY.c (vJ ba).1 (vJ ba).2⟩,c⟩
end
section
variable {j:World} {bL:List Nat} {post:Value→List aB→Prop} {o:Program} {fn:Func} {s:Nat} {dO:List aB} {D:bW} {C:List aB} {d:List eH}
def K.bo(c:∃ ho,fn.results=List.toArray ho∧rx ⟨o,fn,s,j,bL,dO,pJ j bL post⟩ D C ho fun ae=>∃ B,n1 B C∧post (ed ae) B):K ⟨o,fn,s,j,bL,dO,pJ j bL post⟩ (.code .ret :: d) D C:=by
  obtain ⟨ho,cs,c⟩:=c
  obtain ⟨ae,ba,B,W,c⟩:=c.cC
  obtain ⟨bt,aw,dv⟩:=W.dB
  exact K.ret (Fin.ret cs ae ba bt aw B dv c)
def K.afY(c:∃ ho,fn.results=List.toArray ho∧rx ⟨o,fn,s,j,bL,dO,pJ j bL post⟩ D C ho fun ae=>∃ B,n1 B C∧post (ed ae) B):K ⟨o,fn,s,j,bL,dO,pJ j bL post⟩ [] D C:=by
  obtain ⟨ho,cs,c⟩:=c
  obtain ⟨ae,ba,B,W,c⟩:=c.cC
  obtain ⟨bt,aw,dv⟩:=W.dB
  exact K.done (Fin.ret cs ae ba bt aw B dv c)
end
section
variable {i:cM} {d:List eH} {D o:bW} {C ah:List aB} {bo:Type}
def da{dH:bo→Prop}{gY:bo→bW}{cJ:bo→List aB}{iO:bo→Nat}{t:Nat}(F:bo)(kI:dH F)(bh:iO F < t:=by first|omega|(dsimp only;omega))
    (ie:lu (gY F) D:=by repeat first|exact trivial|refine ⟨rfl,?_⟩|refine ⟨hM E,?_⟩) (rN:A4 D (o.map (·.1))=some o:=by rfl)
    (dv:n1 (cJ F++ah) C:=by repeat first|exact n1.s|(apply n1.i;focus (first|((repeat first|(with_reducible exact iQ.c)|(with_reducible apply iQ.u)|((with_reducible apply iQ.j);refine ⟨_,_,rfl,?_⟩));done)|((repeat first|exact iQ.c|apply iQ.u);done)))) :
    K i (.gW (AQ i dH (fun F=>gY F++o) (fun F=>cJ F++ah) iO t) :: d) D C:=let ⟨bt,aw,W⟩:=dv.dB;K.gW F kI bh (lu.x1 ie (F0 rN)) bt aw W
def de(dH:bo→Prop)(gY:bo→bW)(cJ:bo→List aB)(iO:bo→Nat){e:Code}(bK:bo)(eW:List Nat)(bB:dH bK)
    (round:∀ F,dH F→K i (.code e :: .gW (AQ i dH (fun F=>gY F++o) (fun F=>cJ F++ah) iO (iO F)) :: d) (gY F++o) (cJ F++ah))
    (ie:lu (gY bK) D:=by repeat first|exact trivial|refine ⟨rfl,?_⟩|refine ⟨hM E,?_⟩) (rN:A4 D eW=some o:=by rfl)
    (dv:sr (cJ bK) C ah:=by repeat first|exact sr.s|(apply sr.i;focus (first|((repeat first|(with_reducible exact iQ.c)|(with_reducible apply iQ.u)|((with_reducible apply iQ.j);refine ⟨_,_,rfl,?_⟩));done)|((repeat first|exact iQ.c|apply iQ.u);done)))):K i (.code (.loop e) :: d) D C :=
  let ⟨bt,ec,aw,G,J⟩:=dv.cC;K.loop dH (fun F=>gY F++o) (fun F=>cJ F++ah) iO bK bB (lu.x1 ie (F0 rN)) (bt++ec) aw (by rw [Ze,G,J]) round
end
end Go.LK
namespace Go.LK
open Go Go.RowKit
section
variable {i:cM} {d:List eH} {D du:bW} {C:List aB} {ak:Array Oper} {bv:List Oper} {v:Op} {aX:TypeId} {y:Nat} {pos:String} {cT:Array Edge} {e F:Operand} {Y fT:TypeId} {s r H:Nat} {cO:Value→Prop} {L:Option (Nat×Bool)}
def hz(i:cM)(D:bW)(C:List aB)(v:Op)(aX:TypeId)(cO:Value→Prop):Prop:=∃ m,aV i D C v aX m∧cO m
def hT(i:cM)(D:bW)(v:Op)(aX:TypeId)(cO:Value→Prop):Prop:=∃ m,U i D v aX m∧cO m
def hz.o(c:hT i D v aX cO):hz i D C v aX cO:=let ⟨_,c,d⟩:=c;⟨_,c.dg,d⟩
def hT.m[jh i.o](c:∃ m,F8 i.o D v=some m∧cO m):hT i D v aX cO:=let ⟨_,c,d⟩:=c;⟨_,w' c,d⟩
def hz.br[eG i.o Y false](c:∃ L off,aT D e=some (.pointer (some ⟨L,off,none⟩))∧gZ L C 0 fun _ ay _=>∃ m,ay[off]?=some m∧cO m):hz i D C (.load Y e) aX cO :=
  let ⟨_,_,Q,c⟩:=c;let ⟨b,_,_,ac,_,ba,c⟩:=c.u6;⟨_,aV.br b eG.c Q ac ba,c⟩
def hz.gb[eG i.o Y false](c:∃ L off,aT D e=some (.pointer (some ⟨L,off,none⟩))∧gZ L i.dO 0 fun _ ay _=>∃ m,ay[off]?=some m∧cO m):hz i D C (.load Y e) aX cO :=
  let ⟨_,_,Q,c⟩:=c;let ⟨b,_,_,ac,_,ba,c⟩:=c.u6;⟨_,aV.gb b eG.c Q ac ba,c⟩
def hz.W8[eG i.o Y true][fY i.o Y s](c:∃ L off,aT D e=some (.pointer (some ⟨L,off,none⟩))∧gZ L C 0 fun _ ay _=>∃ ae,p0 ay off s=some ae∧cO (.agg ae.toArray)):hz i D C (.load Y e) aX cO :=
  let ⟨_,_,Q,c⟩:=c;let ⟨b,_,_,ac,_,ba,c⟩:=c.u6;⟨_,aV.nG b eG.c fY.c Q ac ba,c⟩
def hz.Z0[eG i.o Y true][fY i.o Y s](c:∃ L off,aT D e=some (.pointer (some ⟨L,off,none⟩))∧gZ L i.dO 0 fun _ ay _=>∃ ae,p0 ay off s=some ae∧cO (.agg ae.toArray)):hz i D C (.load Y e) aX cO :=
  let ⟨_,_,Q,c⟩:=c;let ⟨b,_,_,ac,_,ba,c⟩:=c.u6;⟨_,aV.Xe b eG.c fY.c Q ac ba,c⟩
def hT.ME{eU:Value}{jq:Array (Nat×Nat)}[av:eR i.o Y eU jq]{lD:List (Nat×Operand)}(c:∃ aI,qS eU=some aI∧mV D jq lD aI fun Z=>cO (.agg Z.toArray)):hT i D (.build Y lD.toArray) aX cO:=by
  obtain ⟨aI,ce,c⟩:=c
  obtain ⟨ae,Z,ad,bc,c⟩:=c.cC
  obtain ⟨aH,G,J,aA⟩:=av.c
  exact ⟨_,U.build ae Z jq G J aA (If ad) (by rw [Cg ce];exact bc),c⟩
def hT.mY(c:∃ t s,aT D e=some (.b t)∧aT D F=some (.b s)∧(-9223372036854775808≤t+s∧t+s≤9223372036854775807)∧cO (.b (t+s))):hT i D (.binOp .add Y e F Y) aX cO:=let ⟨_,_,Q,az,av,c⟩:=c;⟨_,U.hJ Q az av,c⟩
def hT.xd(c:∃ t s,aT D e=some (.b t)∧aT D F=some (.b s)∧(-9223372036854775808≤t-s∧t-s≤9223372036854775807)∧cO (.b (t-s))):hT i D (.binOp .sub Y e F Y) aX cO:=let ⟨_,_,Q,az,av,c⟩:=c;⟨_,U.lG Q az av,c⟩
def hT.Pl(c:∃ t s,aT D e=some (.b t)∧aT D F=some (.b s)∧(-9223372036854775808≤t*s∧t*s≤9223372036854775807)∧cO (.b (t*s))):hT i D (.binOp .mul Y e F Y) aX cO:=let ⟨_,_,Q,az,av,c⟩:=c;⟨_,U.us Q az av,c⟩
def hT.hv(c:∃ t s,aT D e=some (.b t)∧aT D F=some (.b s)∧0≤t∧1≤s∧cO (.b (t%s))):hT i D (.binOp .rem Y e F Y) aX cO:=let ⟨_,_,Q,az,bB,G,c⟩:=c;⟨_,U.J6 Q az bB G,c⟩
def hT.qA{aI:Operand}(c:∃ p m,aT D e=some (.bool p)∧aT D F=some m∧p=true∧cO m):hT i D (.pick e F aI) aX cO:=let ⟨_,_,Q,az,av,c⟩:=c;⟨_,U.s7 Q av az,c⟩
def hT.PI{aI:Operand}(c:∃ p m,aT D e=some (.bool p)∧aT D aI=some m∧p=false∧cO m):hT i D (.pick e F aI) aX cO:=let ⟨_,_,Q,az,av,c⟩:=c;⟨_,U.w_ Q av az,c⟩
inductive oW (X:Value):List aB→(Nat→List (List Value)→Prop)→Prop
  | j {u H bZ C b5}:b5 H bZ→oW X (row X u H bZ :: C) b5
  | y {H bZ C b5}:b5 H bZ→oW X (bF X H bZ :: C) b5
  | u {ar C b5}:oW X C b5→oW X (ar :: C) b5
inductive qb (X:Value):List aB→(Nat→List (List Value)→Prop)→Prop
  | y {H bZ C b5}:b5 H bZ→qb X (bF X H bZ :: C) b5
  | u {ar C b5}:qb X C b5→qb X (ar :: C) b5
def oW.Gz{X:Value}{C:List aB}{b5:Nat→List (List Value)→Prop}(c:∃ b2 Z,y9 C=some (b2,Z)∧oW X (b2 :: Z) b5):oW X C b5:=let ⟨_,_,r,c⟩:=c;Bn r ▸ c
def qb.Gz{X:Value}{C:List aB}{b5:Nat→List (List Value)→Prop}(c:∃ b2 Z,y9 C=some (b2,Z)∧qb X (b2 :: Z) b5):qb X C b5:=let ⟨_,_,r,c⟩:=c;Bn r ▸ c
def qf(i:cM)(C:List aB)(X:Value)(b5:Nat→List (List Value)→Prop):Prop:=∃ H bZ,ax i C X H bZ∧b5 H bZ
def qf.f{X:Value}{b5:Nat→List (List Value)→Prop}(c:oW X C b5):qf i C X b5:=by
  have:∃ H bZ,((∃ u,row X u H bZ∈C)∨bF X H bZ∈C)∧b5 H bZ:=by
    induction c with
    | j c=>exact ⟨_,_,.inl ⟨_,p5⟩,c⟩
    | y c=>exact ⟨_,_,.inr p5,c⟩
    | u _ b6=>obtain ⟨H,bZ,G,J⟩:=b6;exact ⟨H,bZ,G.imp (fun ⟨u,c⟩=>⟨u,gS _ c⟩) (gS _),J⟩
  obtain ⟨H,bZ,G|G,J⟩:=this
  · obtain ⟨u,G⟩:=G;exact ⟨H,bZ,fun _ _ W=>P1 (W.cC _ G),J⟩
  · exact ⟨H,bZ,fun _ _ W=>W.cC _ G,J⟩
def qb.cC{X:Value}{ah:List aB}{b5:Nat→List (List Value)→Prop}(c:qb X ah b5):∃ H bZ,bF X H bZ∈ah∧b5 H bZ:=by
  induction c with
  | y c=>exact ⟨_,_,p5,c⟩
  | u _ b6=>obtain ⟨H,bZ,G,J⟩:=b6;exact ⟨H,bZ,gS _ G,J⟩
def qf.Z{X:Value}{b5:Nat→List (List Value)→Prop}(c:qb X i.dO b5):qf i C X b5:=by
  obtain ⟨H,bZ,G,J⟩:=c.cC
  obtain ⟨b,ac⟩:=kw.1 G
  exact ⟨H,bZ,ax.b0 b ac,J⟩
def hz.C5[o1 i.o Y (.slice r)](c:∃ X,aT D e=some X∧qf i C X fun _ bZ=>∃ (bi:Type) (z:bi→List Value) (f:List bi),bZ=f.map z∧cO (.b f.length)):hz i D C (.call { callee:=.builtin .len,args:=#[e],argTypes:=#[Y] }) aX cO:=by
  obtain ⟨X,Q,H,bZ,W,bi,z,f,rfl,c⟩:=c
  exact ⟨_,aV.jN o1.c Q W,c⟩
def hz.jy[o1 i.o Y (.slice r)][fY i.o r H](c:∃ X t,aT D e=some X∧aT D F=some (.b t)∧qf i C X fun gC bZ=>gC=H∧∃ (bi:Type) (z:bi→List Value) (f:List bi),bZ=f.map z∧0≤t∧t.toNat < f.length∧cO (.pointer (some ⟨jT X,kN X+t.toNat*H,none⟩))):hz i D C (.indexAddr Y e F) aX cO:=by
  obtain ⟨X,t,Q,az,gC,bZ,W,rfl,bi,z,f,rfl,bB,G,c⟩:=c
  exact ⟨_,aV.WA o1.c fY.c Q W az bB E,c⟩
def hz.le[eG i.o Y false](c:∃ X n,aT D e=some (.pointer (some ⟨jT X,n,none⟩))∧qf i C X fun H bZ=>∃ (bi:Type) (z:bi→List Value) (f:List bi),bZ=f.map z∧∃ A off l,n=kN X+A*H+off∧f[A]?=some l∧∃ m,(z l)[off]?=some m∧cO m):hz i D C (.load Y e) aX cO:=by
  obtain ⟨X,n,Q,H,bZ,W,bi,z,f,rfl,A,off,l,ad,ag,m,ba,c⟩:=c
  exact ⟨_,aV.le eG.c W ag off Q ad ba,c⟩
def hz.lX[eG i.o Y true][fY i.o Y s](c:∃ X n,aT D e=some (.pointer (some ⟨jT X,n,none⟩))∧qf i C X fun H bZ=>∃ (bi:Type) (z:bi→List Value) (f:List bi),bZ=f.map z∧∃ A off l,n=kN X+A*H+off∧f[A]?=some l∧∃ ae,p0 (z l) off s=some ae∧cO (.agg ae.toArray)):hz i D C (.load Y e) aX cO:=by
  obtain ⟨X,n,Q,H,bZ,W,bi,z,f,rfl,A,off,l,ad,ag,m,ba,c⟩:=c
  exact ⟨_,aV.lX eG.c fY.c W ag off Q ad ba,c⟩
def K.adW{u z:Code}(c:∃ p,aT D e=some (.bool p)∧p=true∧K i (.code u :: d) D C):K i (.code (.cond e u z) :: d) D C:=let ⟨_,Q,av,c⟩:=c;K.lN Q av c
def K.aQ{u z:Code}(c:∃ p,aT D e=some (.bool p)∧p=false∧K i (.code z :: d) D C):K i (.code (.cond e u z) :: d) D C:=let ⟨_,Q,av,c⟩:=c;K.fZ Q av c
def qd(i:cM)(ak:Array Oper)(D:bW)(L:Option (Nat×Bool))(cz:(Value→Prop)→Prop)(cO:Value→Prop):Prop:=match L with
  | none=>cz cO
  | some (k,db)=>∃ u p,(ak[k]?).bind (·.dst)=some u∧gx D u=some (.bool p)∧Nat.blt u i.s=true∧((p=db∧cz cO)∨(p=!db∧cO undef))
def qd.r5{cz:(Value→Prop)→Prop}(c:cz cO):qd i ak D none cz cO:=c
def qd.aak{cz:(Value→Prop)→Prop}{k:Nat}{db:Bool}(c:∃ u p,(ak[k]?).bind (·.dst)=some u∧gx D u=some (.bool p)∧Nat.blt u i.s=true∧p=db∧cz cO):qd i ak D (some (k,db)) cz cO:=let ⟨u,p,G,J,aA,aZ,bT⟩:=c;⟨u,p,G,J,aA,.inl ⟨aZ,bT⟩⟩
def qd.avc{cz:(Value→Prop)→Prop}{k:Nat}{db:Bool}(c:∃ u p,(ak[k]?).bind (·.dst)=some u∧gx D u=some (.bool p)∧Nat.blt u i.s=true∧p=!db∧cO undef):qd i ak D (some (k,db)) cz cO:=let ⟨u,p,G,J,aA,aZ,bT⟩:=c;⟨u,p,G,J,aA,.inr ⟨aZ,bT⟩⟩
def Jv{p db:Bool}(c:p=!db):o4 (.bool p)≠some db:=lY (by subst c;cases db<;>decide)
def aj.cz{fU:World→Act→Prop}(c:Nat.blt y i.s=true∧qd i ak D L (hz i D C v aX) fun m=>aj i ak fU bv ((y,m) :: D) C):aj i ak fU (⟨some y,v,aX,pos,cT,L⟩ :: bv) D C:=by
  obtain ⟨ao,c⟩:=c
  rcases L with _|⟨k,db⟩
  · obtain ⟨m,a6,c⟩:=c;exact aj.A a6 ao c
  · obtain ⟨u,p,G,J,aA,⟨aZ,m,a6,c⟩|⟨aZ,c⟩⟩:=c
    · exact aj.eg G J aZ aA a6 ao c
    · exact aj.iI G J (Jv aZ) aA ao c
def e0.cz{fU:bW→Prop}(c:Nat.blt y i.s=true∧qd i ak D L (hz i D C v aX) fun m=>e0 i ak fU C bv ((y,m) :: D)):e0 i ak fU C (⟨some y,v,aX,pos,cT,L⟩ :: bv) D:=by
  obtain ⟨ao,c⟩:=c
  rcases L with _|⟨k,db⟩
  · obtain ⟨m,a6,c⟩:=c;exact e0.A a6 ao c
  · obtain ⟨u,p,G,J,aA,⟨aZ,m,a6,c⟩|⟨aZ,c⟩⟩:=c
    · exact e0.eg G J aZ aA a6 ao c
    · exact e0.iI G J (Jv aZ) aA ao c
section
variable {fU:bW→List aB→Prop} {b:Nat} {c6:List Nat} {fo:List (Nat×Bool)} {bN:List aB}
def aL.cz(c:∃ y v aX pos cT L,ak[b]?=some ⟨some y,v,aX,pos,cT,L⟩∧vx ⟨some y,v,aX,pos,cT,L⟩=false∧Nat.blt y i.s=true∧qd i ak D L (hz i D bN v aX) fun m=>aL i ak fU (b :: c6) fo ((y,m) :: D) bN C):aL i ak fU c6 ((b,false) :: fo) D bN C:=by
  obtain ⟨y,v,aX,pos,cT,L,ac,ad,ao,c⟩:=c
  rcases L with _|⟨k,db⟩
  · obtain ⟨m,a6,c⟩:=c;exact aL.A ac a6 ao c ad
  · obtain ⟨u,p,G,J,aA,⟨aZ,m,a6,c⟩|⟨aZ,c⟩⟩:=c
    · exact aL.eg ac G J aZ aA a6 ao c
    · exact aL.iI ac G J (Jv aZ) aA ao c
def aL.o(c:∃ y v aX pos cT,ak[b]?=some ⟨some y,v,aX,pos,cT,none⟩∧Nat.blt y i.s=true∧hT i D v aX fun m=>aL i ak fU (b :: c6) fo ((y,m) :: D) bN C):aL i ak fU c6 ((b,false) :: fo) D bN C:=let ⟨_,_,_,_,_,ac,ao,_,ad,c⟩:=c;aL.n ac ad ao c
def aL.jQ[jh i.o](c:∃ v,ak[b]?=some v∧∃ du,qx i.o i.s ak D v=some du∧aL i ak fU (b :: c6) fo du bN C):aL i ak fU c6 ((b,false) :: fo) D bN C:=let ⟨_,ac,_,c,ag⟩:=c;XK ac c ag
def gr.ar(c:zP ak b c6=true∧aL i ak fU (b :: c6) fo D C C):gr i ak fU b c6 fo D bN C:=⟨C,fun _ W=>W,.inl c.1,c.2⟩
def gr.fO(c:n1 bN C∧aL i ak fU (b :: c6) fo D bN C):gr i ak fU b c6 fo D bN C:=by
  obtain ⟨⟨bt,aw,dv⟩,c⟩:=And.intro c.1.dB c.2
  exact ⟨bN,fun _ W=>dv ▸ W.dB aw,.inr fun _ W=>W,c⟩
end
def aj.jQ[jh i.o]{fU:World→Act→Prop}{v:Oper}(c:∃ du,qx i.o i.s ak D v=some du∧aj i ak fU bv du C):aj i ak fU (v :: bv) D C:=let ⟨_,c,ag⟩:=c;XL c ag
def e0.jQ[jh i.o]{fU:bW→Prop}{v:Oper}(c:∃ du,qx i.o i.s ak D v=some du∧e0 i ak fU C bv du):e0 i ak fU C (v :: bv) D:=by
  obtain ⟨du,c,ag⟩:=c
  unfold qx at c
  split at c
  · rename_i y v _ _ _
    cases ao:Nat.blt y i.s with
    | false=>rw [ao] at c;cases c
    | true =>
      rw [ao,cond_true] at c
      split at c
      · rename_i m ba;cases c;exact e0.n (w' ba) ao ag
      · cases c
  · rename_i y v _ _ _ k db
    cases ao:Nat.blt y i.s with
    | false=>rw [ao] at c;cases c
    | true =>
      rw [ao,cond_true] at c
      split at c
      · rename_i bU
        split at c
        · rename_i m ba;cases c
          exact ⟨y,m,rfl,ao,.inl fun ok l j V W=>.inl ⟨sc bU V rfl,.inl (w' ba l j V _ _ _ _)⟩,ag⟩
        · cases c
      · rename_i bU
        cases c
        exact ⟨y,undef,rfl,ao,.inl fun _ _ _ V _=>.inr ⟨sc bU V rfl,rfl⟩,ag⟩
      · cases c
  · cases c
def YF:Nat→Nat→List (Nat×Bool)→List (Nat×Bool)
  | 0,_,u=>u
  | s+1,l,u=>(l,false) :: YF s (l+1) u
def df:List (Nat×Nat)→List (Nat×Bool)
  | []=>[]
  | (l,0) :: f=>(l,true) :: df f
  | (l,s+1) :: f=>YF (s+1) l (df f)
def Z3:List (Nat×Bool)→Option (Nat×Bool×List (Nat×Bool))
  | []=>none
  | (b,p) :: f=>some (b,p,f)
def aL.j{fU:bW→List aB→Prop}{c6:List Nat}{fo:List (Nat×Bool)}{bN:List aB}(c:∃ b p Z,Z3 fo=some (b,p,Z)∧aL i ak fU c6 ((b,p) :: Z) D bN C):aL i ak fU c6 fo D bN C:=by
  obtain ⟨b,p,Z,G,J⟩:=c
  cases fo with
  | nil=>cases G
  | cons l f=>obtain ⟨e,F⟩:=l;cases G;exact J
def aL.an{fU:bW→List aB→Prop}{c6:List Nat}{fo:List (Nat×Bool)}{bN:List aB}(c:Z3 fo=none∧aL i ak fU c6 [] D bN C):aL i ak fU c6 fo D bN C:=by
  cases fo with
  | nil=>exact c.2
  | cons l f=>obtain ⟨e,F⟩:=l;cases c.1
def aL.cn{fU:bW→List aB→Prop}{c6:List Nat}{fo:List (Nat×Bool)}{bN:List aB}{b:Nat}{p:Bool}(c:aL i ak fU c6 ((b,p) :: fo) D bN C):aL i ak fU c6 ((b,p) :: fo) D bN C:=c
def aL.aBG{fU:bW→List aB→Prop}{c6:List Nat}{bN:List aB}(c:aL i ak fU c6 [] D bN C):aL i ak fU c6 [] D bN C:=c
def w.Qf{zR:Option Nat}{k:Nat}{db:Bool}(c:∃ (u:Nat) (n:Prop) (_:Decidable n),(ak[k]?).bind (·.dst)=some u∧gx D u=some (.bool (decide n))∧(n→w i ak (⟨zR,v,aX,pos,cT,some (k,db)⟩ :: bv) d ((u,.bool true) :: D) C)∧(¬n→w i ak (⟨zR,v,aX,pos,cT,some (k,db)⟩ :: bv) d ((u,.bool false) :: D) C)):w i ak (⟨zR,v,aX,pos,cT,some (k,db)⟩ :: bv) d D C:=let ⟨u,_,_,_,av,G,J⟩:=c;w.qC u av G J
def aj.Qf{fU:World→Act→Prop}{zR:Option Nat}{k:Nat}{db:Bool}(c:∃ (u:Nat) (n:Prop) (_:Decidable n),(ak[k]?).bind (·.dst)=some u∧gx D u=some (.bool (decide n))∧(n→aj i ak fU (⟨zR,v,aX,pos,cT,some (k,db)⟩ :: bv) ((u,.bool true) :: D) C)∧(¬n→aj i ak fU (⟨zR,v,aX,pos,cT,some (k,db)⟩ :: bv) ((u,.bool false) :: D) C)):aj i ak fU (⟨zR,v,aX,pos,cT,some (k,db)⟩ :: bv) D C:=let ⟨u,_,_,_,av,G,J⟩:=c;aj.qC u av G J
inductive L4 (i:cM) (z:FuncId) (ae:List Value) (C:List aB) (cO:Value→Prop):Prop
  | mk {en:List aB} {post:Value→List aB→Prop} {m:Value} (bA:M i.o z ae.toArray en [] post) (ad:∀ aG B,post aG B→aG=m∧B=[]) (cs:mC i C en) (a6:su (cO m))
def mC.Py{ah en:List aB}(c:mC i ah en):eI i ah [] en:=mC.ok (bt:=[]) (ec:=List.range ah.length) (by simpa using tp) rfl (Qb ah) c
def e0.D0{fU:bW→Prop}{z:FuncId}[aQ i.o z]{dq:List Operand}{eW:Array TypeId}(c:Nat.blt y i.s=true∧∃ ae,dn D dq=some ae∧L4 i z ae C fun m=>e0 i ak fU C bv ((y,m) :: D)):e0 i ak fU C (⟨some y,.call { callee:=.value (.func z),args:=dq.toArray,argTypes:=eW },aX,pos,cT,none⟩ :: bv) D:=by
  obtain ⟨ao,ae,Q,⟨bA,ad,cs,a6⟩⟩:=c
  exact e0.call (fP:=[]) aQ.c rfl (wH Q) Lv ad cs.Py ao a6.lH
def aL.D0{fU:bW→List aB→Prop}{b:Nat}{c6:List Nat}{fo:List (Nat×Bool)}{bN:List aB}{z:FuncId}[aQ i.o z]{dq:List Operand}{eW:Array TypeId}(ac:ak[b]?=some ⟨some y,.call { callee:=.value (.func z),args:=dq.toArray,argTypes:=eW },aX,pos,cT,L⟩)
    (c:Nat.blt y i.s=true∧∃ ae,dn D dq=some ae∧qd i ak D L (L4 i z ae bN) fun m=>aL i ak fU (b :: c6) fo ((y,m) :: D) bN C):aL i ak fU c6 ((b,false) :: fo) D bN C:=by
  obtain ⟨ao,ae,Q,c⟩:=c
  rcases L with _|⟨k,db⟩
  · obtain ⟨bA,ad,cs,a6⟩:=c
    exact aL.call (fP:=[]) ac aQ.c rfl (wH Q) Lv ad cs.Py ao a6.lH
  · obtain ⟨u,p,G,J,aA,⟨aZ,bA,ad,cs,a6⟩|⟨aZ,c⟩⟩:=c
    · exact aL.yd (fP:=[]) ac G J aZ aA aQ.c rfl (wH Q) Lv ad cs.Py ao a6.lH
    · exact aL.iI ac G J (Jv aZ) aA ao c
class uQ (o:Program) (Y:TypeId) (u H bytes:outParam Nat):Prop where c:∃ jm eU,o.underlying Y=some (.slice u)∧o.info? u=some jm∧jm.zero=some eU∧jm.size=H∧jm.bytes=bytes∧eU.cells.size=H∧Nat.blt 0 H=true
class uX {bi:Type} (z:bi→List Value):Prop where c:∀ l,(z l).all Value.oneCell'=true
inductive qc (X:Value):List aB→Nat→(Nat→TypeId→Nat→List (List Value)→Prop)→Prop
  | c {u H bZ C b b5}:b5 b u H bZ→qc X (row X u H bZ :: C) b b5
  | u {ar C b b5}:qc X C (b+1) b5→qc X (ar :: C) b b5
def qc.Gz{X:Value}{C:List aB}{b:Nat}{b5:Nat→TypeId→Nat→List (List Value)→Prop}(c:∃ b2 Z,y9 C=some (b2,Z)∧qc X (b2 :: Z) b b5):qc X C b b5:=let ⟨_,_,r,c⟩:=c;Bn r ▸ c
def qc.cC{X:Value}{C rr:List aB}{b:Nat}{b5:Nat→TypeId→Nat→List (List Value)→Prop}(c:qc X C b b5)(bB:∀ k,rr[b+k]?=C[k]?):∃ (b:Nat) (u:TypeId) (H:Nat) (bZ:List (List Value)),rr[b]?=some (row X u H bZ)∧b5 b u H bZ:=by
  induction c with
  | c aS=>exact ⟨_,_,_,_,bB 0,aS⟩
  | u _ b6=>exact b6 fun k=>by rw [show ∀ l p:Nat,l+1+p=l+(p+1) from by omega,bB];rfl
def nZ.gg{u H bytes:Nat}{r:TypeId}{bN:Value→List aB→Prop}[V:uQ i.o Y u H bytes](c:∃ X q,aT D e=some X∧aT D F=some q∧qc X C 0 fun b cU gC bZ=>cU=u∧gC=H∧∃ (bi:Type) (z:bi→List Value) (f:List bi),bZ=f.map z∧uX z∧qf i C q fun Y' Uq=>Y'=H∧∃ hY:List bi,Uq=hY.map z∧f.length+hY.length≤9223372036854775807∧(f.length+hY.length)*bytes≤140737488355328∧∀ m,bN m (C.set b (row m u H ((f++hY).map z)))) :
    nZ i D C (.call { callee:=.builtin .append,args:=#[e,F],argTypes:=#[Y,Y] }) r bN:=by
  obtain ⟨jm,eU,wA,tP,Ti,Tj,Tk,af',aga⟩:=V.c
  obtain ⟨X,q,Q,az,c⟩:=c
  obtain ⟨b,cU,gC,bZ,ac,rfl,rfl,bi,z,f,rfl,bw,Y',Uq,W,rfl,hY,rfl,G,J,c⟩:=c.cC (rr:=C) fun k=>by rw [uM]
  exact ⟨_,aq.gg b wA ⟨tP,Ti,Tj,Tk⟩ af' aga Q ac az W (fun l _=>bw.c l) G J,fun m _ r=>by subst r;exact c m⟩
end
end Go.LK
namespace Go.LK.bn
open Go Go.LK
def q9:List Int→Int→List Int
  | [],e=>[e]
  | F :: v,e=>if F < e then F :: q9 v e else e :: F :: v
def hO(v:List Int)(e:Int):List Int:=if e∈v then v else q9 v e
def rising(f:List Int):List Int:=f.foldl hO []
abbrev jD(v:List Int):Prop:=v.Pairwise (· < ·)
def Xk{v:List Int}{e F:Int}:F∈q9 v e↔F=e∨F∈v:=by
  induction v with
  | nil=>simp [q9]
  | cons aI v b6 =>
    unfold q9
    split
    · simp only [fb,b6]
      constructor
      · rintro (c|c|c)<;>simp [c]
      · rintro (c|c|c)<;>simp [c]
    · simp only [fb]
def awy{v:List Int}{e:Int}(c:jD v)(Q:e∉v):jD (q9 v e):=by
  induction v with
  | nil=>simp [q9]
  | cons aI v b6 =>
    have ce:=l7.1 c
    have aAL:e≠aI:=fun aC=>Q (by simp [aC])
    unfold q9
    split
    · rename_i ca
      refine l7.2 ⟨fun F az=>?_,b6 ce.2 fun aC=>Q (gS _ aC)⟩
      rcases Xk.1 az with rfl|az
      · exact ca
      · exact ce.1 F az
    · rename_i ca
      refine l7.2 ⟨fun F az=>?_,c⟩
      rcases fb.1 az with rfl|az
      · omega
      · have:=ce.1 F az
        omega
def apy{v:List Int}{e F:Int}:F∈hO v e↔F=e∨F∈v:=by
  unfold hO
  split
  · rename_i c
    constructor
    · exact .inr
    · rintro (rfl|J)
      · exact c
      · exact J
  · exact Xk
def KC{v:List Int}{e:Int}(c:jD v):jD (hO v e):=by
  unfold hO
  split
  · exact c
  · exact awy c bO
def awx{f v:List Int}(c:jD v):jD (f.foldl hO v):=by
  induction f generalizing v with
  | nil=>exact c
  | cons e f b6=>exact b6 (KC c)
def apx{f v:List Int}{F:Int}:F∈f.foldl hO v↔F∈f∨F∈v:=by
  induction f generalizing v with
  | nil=>simp
  | cons e f b6 =>
    rw [DA,b6,apy,fb]
    constructor
    · rintro (c|c|c)<;>simp [c]
    · rintro ((c|c)|c)<;>simp [c]
def Gf(f:List Int):jD (rising f):=awx .nil
def Jp{f:List Int}{F:Int}:F∈rising f↔F∈f:=by rw [rising,apx];simp
def Qw{l p:List Int}(V:jD l)(av:jD p)(c:∀ e,e∈l↔e∈p):l=p:=by
  induction l generalizing p with
  | nil =>
    cases p with
    | nil=>rfl
    | cons F p=>exact absurd ((c F).2 oU) oU
  | cons e l b6 =>
    cases p with
    | nil=>exact absurd ((c e).1 oU) oU
    | cons F p =>
      have G:=l7.1 V
      have J:=l7.1 av
      have anc:e=F:=by
        rcases fb.1 ((c e).1 oU) with aC|aC
        · exact aC
        · rcases fb.1 ((c F).2 oU) with bc|bc
          · exact bc.symm
          · have:=J.1 e aC;have:=G.1 F bc;omega
      subst anc
      rw [b6 G.2 J.2 fun aI=>⟨fun ce=>?_,fun ce=>?_⟩]
      · rcases fb.1 ((c aI).1 (gS _ ce)) with aC|aC
        · have:=G.1 aI ce;omega
        · exact aC
      · rcases fb.1 ((c aI).2 (gS _ ce)) with aC|aC
        · have:=J.1 aI ce;omega
        · exact aC
def atI{f:List Int}:rising f=[]↔f=[]:=by
  constructor
  · intro c
    cases f with
    | nil=>rfl
    | cons e f=>exact absurd (Jp (f:=e :: f).2 (p5)) (by rw [c];simp)
  · rintro rfl;rfl
def anE{v:List Int}{e:Int}:(hO v e).length≤v.length+1:=by
  have bB:∀ v:List Int,(q9 v e).length=v.length+1:=by
    intro v
    induction v with
    | nil=>rfl
    | cons aI v b6=>unfold q9;split<;>simp [b6]
  unfold hO;split
  · omega
  · rw [bB];exact oQ _
def atJ{f:List Int}{d:Nat}{e:Int}(c:f[d]?=some e):rising (f.take (d+1))=hO (rising (f.take d)) e:=by
  unfold rising
  rw [hx,c,p6];rfl
def ai6{f v:List Int}:(f.foldl hO v).length≤v.length+f.length:=by
  induction f generalizing v with
  | nil=>simp
  | cons e f b6=>rw [DA];have:=@b6 (hO v e);have:=@anE v e;simp only [e6];omega
def YB{f:List Int}:(rising f).length≤f.length:=by have:=@ai6 f [];unfold rising;simpa using this
def WF{v:List Int}{e:Int}{d:Nat}(G:((v.take d).all fun F=>decide (F < e))=true)(J:d≤v.length)(aA:¬d < v.length∨∃ F,v[d]?=some F∧¬F < e):v.take d++[e]++v.drop d=q9 v e:=by
  induction v generalizing d with
  | nil=>simp at J;subst J;rfl
  | cons aI v b6 =>
    cases d with
    | zero =>
      rcases aA with aA|⟨F,az,aw⟩
      · simp at aA
      · simp at az;subst az;simp [q9,aw]
    | succ d =>
      simp only [GM,k8,h6,decide_eq_true_eq] at G
      rw [q9,ee G.1,←b6 G.2 abg (by simpa using aA)]
      simp
def apo{v:List Int}{e F:Int}{d:Nat}(G:((v.take d).all fun F=>decide (F < e))=true)(az:v[d]?=some F)(ca:F < e):((v.take (d+1)).all fun F=>decide (F < e))=true:=by
  rw [hx,az,QN,G];simp [ca]
def ah3{y:Array Int}(W:∀ b k,b≤k→k < y.size→y[b]!≤y[k]!):∀ t,t≤y.size→jD (Go.Lib.compactUpTo y t)∧∀ F,F∈Go.Lib.compactUpTo y t↔∃ k,k < t∧y[k]! = F:=by
  intro t
  induction t with
  | zero=>intro _;refine ⟨by simp [Go.Lib.compactUpTo],fun F=>by simp [Go.Lib.compactUpTo]⟩
  | succ t b6 =>
    intro bh
    obtain ⟨G,J⟩:=b6 E
    rw [Go.Lib.compactUpTo_succ]
    by_cases R:Go.Lib.keeps y t=true
    · rw [ee R]
      refine ⟨p7.2 ⟨G,by simp,fun l V p av=>?_⟩,fun F=>?_⟩
      · obtain ⟨k,ag,rfl⟩:=(J l).1 V
        rw [nm.1 av]
        simp only [Go.Lib.keeps,decide_eq_true_eq] at R
        rcases R with R|R
        · omega
        · have:=W k (t-1) E E
          have:=W (t-1) t E E
          omega
      · rw [iE,J,nm]
        constructor
        · rintro (⟨k,ag,rfl⟩|rfl)
          · exact ⟨k,by omega,rfl⟩
          · exact ⟨t,by omega,rfl⟩
        · rintro ⟨k,ag,rfl⟩
          rcases mR k t with c|c
          · exact .inl ⟨k,c,rfl⟩
          · exact .inr (by rw [show k=t from by omega])
    · rw [be R,xA]
      refine ⟨G,fun F=>?_⟩
      rw [J]
      constructor
      · rintro ⟨k,ag,rfl⟩;exact ⟨k,by omega,rfl⟩
      · rintro ⟨k,ag,rfl⟩
        rcases mR k t with c|c
        · exact ⟨k,c,rfl⟩
        · have IR:k=t:=by omega
          subst IR
          simp only [Go.Lib.keeps,decide_eq_true_eq,not_or,Classical.not_not] at R
          exact ⟨k-1,by omega,R.2.symm⟩
def MY(f:List Int):Go.Lib.compact (f.mergeSort fun e F=>decide (e≤F))=rising f:=by
  have ad:(f.mergeSort fun e F=>decide (e≤F)).Pairwise fun e F=>decide (e≤F)=true:=QS (fun l p i G J=>by simp at *;omega) (fun l p=>by simp;omega) f
  have W:∀ b k,b≤k→k < (f.mergeSort fun e F=>decide (e≤F)).toArray.size→(f.mergeSort fun e F=>decide (e≤F)).toArray[b]!≤(f.mergeSort fun e F=>decide (e≤F)).toArray[k]!:=by
    intro b k mi ag
    rw [getElem!_pos _ b E,getElem!_pos _ k ag]
    simp only [aaE]
    rcases mR b k with c|c
    · have:=GH.1 ad b k (by simpa using (E:b < (f.mergeSort fun e F=>decide (e≤F)).toArray.size)) DO c
      simpa using this
    · have:b=k:=by omega
      subst this;exact sf _
  obtain ⟨G,J⟩:=ah3 W _ (oQ _)
  refine Qw (by simpa [Go.Lib.compact] using G) (Gf f) fun e=>?_
  rw [Jp,←(Q2 f fun e F=>decide (e≤F)).mem_iff]
  have aA:=J e
  simp only [Go.Lib.compact,GP] at aA ⊢
  rw [aA]
  constructor
  · rintro ⟨k,ag,rfl⟩
    rw [getElem!_pos _ k DO]
    simp
  · intro c
    obtain ⟨k,ag,rfl⟩:=List.mem_iff_getElem.1 c
    exact ⟨k,ag,by rw [getElem!_pos _ k DO];simp⟩
def ano{v:List Int}{i:Int}{d:Nat}(c:jD v)(aS:v[d]?=some i):v.take d++v.drop (d+1)=v.filter fun e=>decide (e≠i):=by
  induction v generalizing d with
  | nil=>simp at aS
  | cons aI v b6 =>
    have ce:=l7.1 c
    cases d with
    | zero =>
      simp at aS;subst aS
      have:v.filter (fun e=>decide (e≠aI))=v:=rk.2 fun e Q=>by have:=ce.1 e Q;simp;omega
      simp only [ne_eq,decide_not] at this
      simp [this]
    | succ d =>
      simp at aS
      have bh:i∈v:=eF aS
      have ea:aI≠i:=by have:=ce.1 i bh;omega
      have:=b6 ce.2 aS
      simp only [GM,za,oo,nR]
      rw [ee (by simp [ea]),this]
def Uz{v:List Int}{i e:Int}{d:Nat}(Q:v[d]?=some e):(v.take (d+1)).filter (fun e=>decide (e≠i))=(v.take d).filter (fun e=>decide (e≠i))++(if e≠i then [e] else []):=by
  rw [hx,Q,jg]
  by_cases c:e=i<;>simp [c]
end Go.LK.bn
namespace Go.LK
structure cI where
  call:Int
  ff:Int
def cI.cells(r:cI):List Value:=[r.call,r.ff]
def cI.one{f:List cI}:∀ l∈f,(cI.cells l).all Value.oneCell'=true:=fun _ _=>rfl
structure hA where
  p:Nat
  v:Nat
  fR:List (Int×Int)
  eK:List (Int×(Nat×List (Int×Int)))
def k3(m:Nat×List (Int×Int)):Value:=.map (some m.1)
def mn(n:Int×(Nat×List (Int×Int))):aB:=cw n.2.1 (Value.int .i64) n.2.2
def hA.C(Y n:Nat)(H:hA):List aB:=[ai n [.map (some H.p),.map (some H.v)] Y,cw H.p (Value.int .i64) H.fR,cw H.v k3 H.eK,c1 (H.eK.map mn)]
def hF(Y n:Nat)(H:hA):aB:=c1 (hA.C Y n H)
def apC{bi:Type}{p:Nat}{z:bi→Value}{t dF:List (Int×bi)}(c:t.map (fun n=>(n.1,z n.2))=dF.map fun n=>(n.1,z n.2)):∀ j,(cw p z t).holds j→(cw p z dF).holds j:=by
  rintro j ⟨cV,di,G,J⟩
  have R:ex t=ex dF:=by
    have:=dz (List.map Prod.fst) c
    simpa [ex,rl,GQ] using this
  have aC:t.map (fun n=>(Value.b n.1,z n.2))=dF.map fun n=>(Value.b n.1,z n.2):=by
    have:=dz (List.map fun (A:Int×Value)=>(Value.b A.1,A.2)) c
    simpa [rl,GQ] using this
  exact ⟨cV,di,G,⟨J.eq.trans aC,R ▸ J.wZ,J.born,J.kr⟩⟩
section
variable {bi:Type} {t:List (Int×bi)} {d:Int} {m aG:bi}
def Is(c:cx t d=some m)(aw:(ex t).Nodup):∃ ar b2,t=ar++(d,m) :: b2∧e' t d aG=ar++(d,aG) :: b2∧e3 t d=ar++b2:=by
  induction t with
  | nil=>simp [cx] at c
  | cons n t b6 =>
    have mK:=kP.1 (w0 ▸ aw:(n.1 :: ex t).Nodup)
    simp only [cx] at c
    by_cases ad:n.1=d
    · rw [ee ad] at c
      cases c
      refine ⟨[],t,by simp [←ad],by simp [e',ad],?_⟩
      have:e3 t d=t:=Uc (ad ▸ mK.1)
      unfold e3 at this ⊢
      rw [nR,be (by simp [ad]),this];rfl
    · rw [be ad] at c
      obtain ⟨ar,b2,G,J,aA⟩:=b6 c mK.2
      refine ⟨n :: ar,b2,by rw [G];rfl,by simp [e',ad,J],?_⟩
      unfold e3 at aA ⊢
      rw [nR,ee (by simp [ad]),aA];rfl
def F_(c:cx t d=none):e' t d aG=t++[(d,aG)]:=by
  induction t with
  | nil=>rfl
  | cons n t b6 =>
    simp only [cx] at c
    by_cases ad:n.1=d
    · rw [ee ad] at c;cases c
    · rw [be ad] at c
      simp [e',ad,b6 c]
end
end Go.LK
namespace Go.LK.bj
open Go Go.LK
def dX:List cI→Int→Option Int
  | [],_=>none
  | n :: f,i=>if n.call=i then some n.ff else dX f i
def c8(f:List cI)(i:Int):List cI:=f.filter fun n=>decide (n.call≠i)
def mv(f:List cI)(k:Int):List Int:=(f.filter fun n=>decide (n.ff=k)).map cI.call
def drop(f:List cI)(k:Int):List cI:=f.filter fun n=>decide (n.ff≠k)
def hO:List cI→Int→Int→List cI
  | [],i,k=>[⟨i,k⟩]
  | n :: f,i,k=>if n.call < i then n :: hO f i k else ⟨i,k⟩ :: n :: f
def add(f:List cI)(i k:Int):List cI:=if (dX f i).isSome then f else hO f i k
def bb(f:List cI):List Int:=f.map cI.call
section
variable {f:List cI} {i fk k eM:Int}
def H8{n:cI}:bb (n :: f)=n.call :: bb f:=rfl
def WS:(∃ k,dX f i=some k)↔i∈bb f:=by
  induction f with
  | nil=>simp [dX,bb]
  | cons n f b6 =>
    rw [H8,fb];simp only [dX]
    by_cases c:n.call=i
    · simp [c]
    · rw [be c,b6]
      constructor
      · exact .inr
      · rintro (G|G)
        · exact absurd G.symm c
        · exact G
def aos:dX f i=none↔i∉bb f:=by
  rw [←WS];cases dX f i<;>simp
def AR:dX (c8 f i) fk=if i=fk then none else dX f fk:=by
  induction f with
  | nil=>simp [c8,dX]
  | cons n f b6 =>
    unfold c8 at b6 ⊢
    rw [nR]
    by_cases c:n.call=i
    · rw [be sg,b6];simp only [dX]
      by_cases J:i=fk
      · simp [J]
      · have:¬n.call=fk:=fun r=>J (c.symm.trans r)
        simp [J,this]
    · rw [ee sg];simp only [dX,b6]
      by_cases J:i=fk
      · subst J;simp [c]
      · simp [J]
def yD(aw:dX f i=none):dX (hO f i k) fk=if i=fk then some k else dX f fk:=by
  induction f with
  | nil=>simp [hO,dX]
  | cons n f b6 =>
    simp only [dX] at aw
    by_cases c:n.call=i
    · rw [ee c] at aw;cases aw
    · rw [be c] at aw
      simp only [hO]
      split
      · simp only [dX,b6 aw]
        by_cases J:i=fk
        · subst J;simp [c]
        · simp [J]
      · simp only [dX]
def ahw:∀ e,e∈bb (hO f i k)↔e=i∨e∈bb f:=by
  induction f with
  | nil=>intro e;simp [hO,bb]
  | cons n f b6 =>
    intro e
    simp only [hO]
    split
    · rw [H8,H8,fb,fb,b6]
      constructor
      · rintro (c|c|c)
        · exact .inr (.inl c)
        · exact .inl c
        · exact .inr (.inr c)
      · rintro (c|c|c)
        · exact .inr (.inl c)
        · exact .inl c
        · exact .inr (.inr c)
    · rw [H8,fb]
def KC(bp:bn.jD (bb f))(aw:dX f i=none):bn.jD (bb (hO f i k)):=by
  induction f with
  | nil=>simp [hO,bb,bn.jD]
  | cons n f b6 =>
    have ph:=l7.1 (show List.Pairwise (· < ·) (n.call :: bb f) from bp)
    simp only [dX] at aw
    by_cases c:n.call=i
    · rw [ee c] at aw;cases aw
    · rw [be c] at aw
      simp only [hO]
      split
      · rename_i ca
        refine l7.2 ⟨fun e Q=>?_,b6 ph.2 aw⟩
        rcases (ahw e).1 Q with rfl|Q
        · exact ca
        · exact ph.1 e Q
      · rename_i ca
        refine l7.2 ⟨fun e Q=>?_,bp⟩
        have VL:i < n.call:=by
          have:(⟨i,k⟩:cI).call=i:=rfl
          omega
        rcases fb.1 (show e∈n.call :: bb f from Q) with rfl|Q
        · exact VL
        · exact Int.lt_trans VL (ph.1 e Q)
def Qx{z:cI→Bool}(bp:bn.jD (bb f)):bn.jD (bb (f.filter z)):=List.Pairwise.sublist (Ra _ zd) bp
def Pj(bp:bn.jD (bb f)):i∈mv f k↔dX f i=some k:=by
  induction f with
  | nil=>simp [mv,dX]
  | cons n f b6 =>
    have ph:=l7.1 (show List.Pairwise (· < ·) (n.call :: bb f) from bp)
    have bB:mv (n :: f) k=if n.ff=k then n.call :: mv f k else mv f k:=by
      unfold mv;rw [nR];by_cases c:n.ff=k<;>simp [c]
    rw [bB];simp only [dX]
    by_cases c:n.call=i
    · rw [ee c]
      have dy:i∉bb f:=fun aS=>by have:=ph.1 i aS;omega
      have Oy:i∉mv f k:=fun aS=>by
        obtain ⟨A,a6,aC⟩:=bx.1 aS
        exact dy (bx.2 ⟨A,(pt.1 a6).1,aC⟩)
      by_cases ag:n.ff=k
      · simp [ag,c]
      · simp [ag,Oy]
    · rw [be c,←b6 ph.2]
      have gH:¬i=n.call:=fun r=>c r.symm
      by_cases ag:n.ff=k
      · simp [ag,gH]
      · simp [ag]
def awz(bp:bn.jD (bb f)):bn.jD (mv f k):=Qx bp
structure hI (e:List cI) (H:hA):Prop where
  up:bn.jD (bb e)
  JZ:(ex H.fR).Nodup
  on:(ex H.eK).Nodup
  EF:∀ i,cx H.fR i=dX e i
  A1:∀ k,cx H.eK k=none→∀ i,dX e i≠some k
  vt:∀ k m,cx H.eK k=some m→(ex m.2).Nodup∧m.2≠[]∧∀ i,i∈ex m.2↔dX e i=some k
def hI.new{p v:Nat}:hI [] ⟨p,v,[],[]⟩:=⟨by simp [bb,bn.jD],by simp [ex],by simp [ex],fun _=>rfl,fun _ _ _=>by simp [dX],fun k m c=>by simp [cx] at c⟩
variable {e:List cI} {H:hA} {m:Nat×List (Int×Int)}
def hI.wZ(c:hI e H)(ba:cx H.eK k=some m):bn.rising (ex m.2)=mv e k:=by
  obtain ⟨_,_,aA⟩:=c.vt k m ba
  exact bn.Qw (bn.Gf _) (awz c.up) fun i=>by rw [bn.Jp,aA,Pj c.up]
def hI.apX(c:hI e H)(ba:cx H.eK k=none):mv e k=[]:=QM.2 fun i aS=>c.A1 k ba i ((Pj c.up).1 aS)
def hI.akd(c:hI e H)(aS:dX e i=some k):∃ m,cx H.eK k=some m∧i∈ex m.2:=by
  cases ba:cx H.eK k with
  | none=>exact absurd aS (c.A1 k ba i)
  | some m=>exact ⟨m,rfl,((c.vt k m ba).2.2 i).2 aS⟩
def Pi{bi:Type}{t:List (Int×bi)}{d cD:Int}{aG:bi}:cD∈ex (e' t d aG)↔cD=d∨cD∈ex t:=by
  rw [←EO,lQ,←EO]
  exact acj
def Xl{bi:Type}{t:List (Int×bi)}{d cD:Int}:cD∈ex (e3 t d)↔cD≠d∧cD∈ex t:=by
  rw [←EO,sG,←EO]
  exact acj
def Ya{bi:Type}{t:List (Int×bi)}{d:Int}{aG:bi}:e' t d aG≠[]:=fun c=>by
  have:d∈ex (e' t d aG):=Pi.2 (.inl rfl)
  rw [c] at this;simp [ex] at this
def hI.agh(c:hI e H)(aw:dX e i=none)(ba:cx H.eK k=some m):hI (hO e i k) { H with fR:=e' H.fR i k,eK:=e' H.eK k (m.1,e' m.2 i k) }:=by
  refine ⟨KC c.up aw,yO c.JZ,yO c.on,fun fk=>?_,fun eM jK fk=>?_,fun eM aG bp=>?_⟩
  · rw [lQ,yD aw,c.EF]
  · rw [lQ] at jK
    by_cases aC:k=eM
    · rw [ee aC] at jK;cases jK
    · rw [be aC] at jK
      rw [yD aw]
      split
      · intro r;cases r;exact aC rfl
      · exact c.A1 eM jK fk
  · rw [lQ] at bp
    by_cases aC:k=eM
    · subst aC
      rw [ee rfl] at bp;cases bp
      obtain ⟨G,J,aA⟩:=c.vt k m ba
      refine ⟨yO G,Ya,fun fk=>?_⟩
      rw [Pi,yD aw,aA]
      by_cases aS:i=fk
      · simp [aS]
      · have:¬fk=i:=fun r=>aS r.symm
        simp [aS,this]
    · rw [be aC] at bp
      obtain ⟨G,J,aA⟩:=c.vt eM aG bp
      refine ⟨G,J,fun fk=>?_⟩
      rw [aA,yD aw]
      by_cases aS:i=fk
      · subst aS
        simp [aw,aC]
      · simp [aS]
def hI.agi{p:Nat}(c:hI e H)(aw:dX e i=none)(ba:cx H.eK k=none):hI (hO e i k) { H with fR:=e' H.fR i k,eK:=e' H.eK k (p,e' [] i k) }:=by
  refine ⟨KC c.up aw,yO c.JZ,yO c.on,fun fk=>?_,fun eM jK fk=>?_,fun eM aG bp=>?_⟩
  · rw [lQ,yD aw,c.EF]
  · rw [lQ] at jK
    by_cases aC:k=eM
    · rw [ee aC] at jK;cases jK
    · rw [be aC] at jK
      rw [yD aw]
      split
      · intro r;cases r;exact aC rfl
      · exact c.A1 eM jK fk
  · rw [lQ] at bp
    by_cases aC:k=eM
    · subst aC
      rw [ee rfl] at bp;cases bp
      refine ⟨by simp [e',ex],Ya,fun fk=>?_⟩
      rw [Pi,yD aw]
      have bB:=c.A1 k ba fk
      by_cases aS:i=fk
      · simp [aS]
      · have:¬fk=i:=fun r=>aS r.symm
        simp [aS,this,ex,bB]
    · rw [be aC] at bp
      obtain ⟨G,J,aA⟩:=c.vt eM aG bp
      refine ⟨G,J,fun fk=>?_⟩
      rw [aA,yD aw]
      by_cases aS:i=fk
      · subst aS
        simp [aw,aC]
      · simp [aS]
def hI.av_(c:hI e H)(aS:dX e i=some k)(ba:cx H.eK k=some m)(ea:e3 m.2 i≠[]):hI (c8 e i) { H with fR:=e3 H.fR i,eK:=e' H.eK k (m.1,e3 m.2 i) }:=by
  refine ⟨Qx c.up,FP c.JZ,yO c.on,fun fk=>?_,fun eM jK fk=>?_,fun eM aG bp=>?_⟩
  · rw [sG,AR,c.EF]
  · rw [lQ] at jK
    by_cases aC:k=eM
    · rw [ee aC] at jK;cases jK
    · rw [be aC] at jK
      rw [AR]
      split
      · simp
      · exact c.A1 eM jK fk
  · rw [lQ] at bp
    by_cases aC:k=eM
    · subst aC
      rw [ee rfl] at bp;cases bp
      obtain ⟨G,J,aA⟩:=c.vt k m ba
      refine ⟨FP G,ea,fun fk=>?_⟩
      rw [Xl,AR,aA]
      by_cases pO:i=fk
      · simp [pO]
      · have:¬fk=i:=fun r=>pO r.symm
        simp [pO,this]
    · rw [be aC] at bp
      obtain ⟨G,J,aA⟩:=c.vt eM aG bp
      refine ⟨G,J,fun fk=>?_⟩
      rw [aA,AR]
      by_cases pO:i=fk
      · subst pO
        simp [aS,aC]
      · simp [pO]
def hI.av9(c:hI e H)(aS:dX e i=some k)(ba:cx H.eK k=some m)(ea:e3 m.2 i=[]):hI (c8 e i) { H with fR:=e3 H.fR i,eK:=e3 H.eK k }:=by
  have aA:=(c.vt k m ba).2.2
  have fw:∀ fk,dX e fk=some k→fk=i:=fun fk E_=>by
    rcases Q7 (fk=i) with aC|aC
    · exact aC
    · have:fk∈ex (e3 m.2 i):=Xl.2 ⟨aC,(aA fk).2 E_⟩
      rw [ea] at this;simp [ex] at this
  refine ⟨Qx c.up,FP c.JZ,FP c.on,fun fk=>?_,fun eM jK fk=>?_,fun eM aG bp=>?_⟩
  · rw [sG,AR,c.EF]
  · rw [sG] at jK
    rw [AR]
    by_cases pO:i=fk
    · simp [pO]
    · rw [be pO]
      by_cases aC:k=eM
      · subst aC
        exact fun Q=>pO (fw fk Q).symm
      · rw [be aC] at jK
        exact c.A1 eM jK fk
  · rw [sG] at bp
    by_cases aC:k=eM
    · rw [ee aC] at bp;cases bp
    · rw [be aC] at bp
      obtain ⟨G,J,aA⟩:=c.vt eM aG bp
      refine ⟨G,J,fun fk=>?_⟩
      rw [aA,AR]
      by_cases pO:i=fk
      · subst pO
        simp [aS,aC]
      · simp [pO]
end
end Go.LK.bj
namespace Go.LK
open Go bj
section
variable {Y n:Nat} {H:hA} {k:Int} {m:Nat×List (Int×Int)}
def QG{ar:aB}(bI:ar∈hA.C Y n H):∃ b2∈[hF Y n H],∀ j,b2.holds j→ar.holds j∧∀ d∈ar.dT,d∈b2.dT:=⟨_,GN _,Ca bI⟩
def axj(ba:(k,m)∈H.eK):∃ b2∈[hF Y n H],∀ j,b2.holds j→(cw m.1 (Value.int .i64) m.2).holds j∧∀ d∈(cw m.1 (Value.int .i64) m.2).dT,d∈b2.dT:=by
  refine ⟨_,GN _,fun j bU=>?_⟩
  obtain ⟨G,J⟩:=Ca (ar:=c1 (H.eK.map mn)) (eu:=hA.C Y n H) aBF j bU
  obtain ⟨aA,aZ⟩:=Ca (ar:=mn (k,m)) (bx.2 ⟨_,ba,rfl⟩) j G
  exact LS
def KJ{p v:Nat}{fR:List (Int×Int)}{eK FT:List (Int×(Nat×List (Int×Int)))}(c:eK.map (fun A=>(A.1,k3 A.2))=FT.map fun A=>(A.1,k3 A.2)) :
    a' [c1 (FT.map mn),ai n [.map (some p),.map (some v)] Y,cw p (Value.int .i64) fR,cw v k3 eK] [hF Y n ⟨p,v,fR,FT⟩] :=
  (a'.dB [3,0,1,2] bd rfl).trans ((a'.imp (b2:=cw v k3 FT) (apC c) rfl).trans ((a'.dB [2,3,0,1] bd rfl).trans a'.qj))
def QH:a' [hF Y n H] [c1 (H.eK.map mn),ai n [.map (some H.p),.map (some H.v)] Y,cw H.p (Value.int .i64) H.fR,cw H.v k3 H.eK]:=a'.o6.trans (a'.dB [3,0,1,2] bd rfl)
def aaf(aw:(ex H.eK).Nodup)(ba:cx H.eK k=some m):∃ ah:List aB,a' [hF Y n H] [cw m.1 (Value.int .i64) m.2,c1 ah,ai n [.map (some H.p),.map (some H.v)] Y,cw H.p (Value.int .i64) H.fR,cw H.v k3 H.eK] ∧
    (∀ aG vw,a' [cw m.1 (Value.int .i64) aG,c1 ah,ai n [.map (some H.p),.map (some H.v)] Y,cw H.p (Value.int .i64) vw,cw H.v k3 H.eK] [hF Y n ⟨H.p,H.v,vw,e' H.eK k (m.1,aG)⟩]) ∧
    ∀ vw,a' [c1 ah,ai n [.map (some H.p),.map (some H.v)] Y,cw H.p (Value.int .i64) vw,cw H.v k3 (e3 H.eK k)] [hF Y n ⟨H.p,H.v,vw,e3 H.eK k⟩]:=by
  obtain ⟨ar,b2,G,_,aA⟩:=Is (aG:=m) ba aw
  refine ⟨ar.map mn++b2.map mn,?_,fun aG vw=>?_,fun vw=>?_⟩
  · refine QH.trans (a'.kL (qM:=ar.map mn) (p':=b2.map mn) (b2:=mn (k,m)) ?_)
    conv=>lhs;rw [G]
    simp
  · obtain ⟨kS,ty,yg,U6,ayR⟩:=Is (aG:=(m.1,aG)) ba aw
    have sK:kS=ar∧ty=b2:=by
      have ea:∀ (ar kS b2 ty:List (Int×(Nat×List (Int×Int)))),(ex (ar++(k,m) :: b2)).Nodup→ar++(k,m) :: b2=kS++(k,m) :: ty→kS=ar∧ty=b2:=by
        intro ar
        induction ar with
        | nil =>
          intro kS b2 ty gv aC
          cases kS with
          | nil=>simp at aC;exact ⟨rfl,aC.symm⟩
          | cons A kS =>
            simp only [lK,oo,oR] at aC
            obtain ⟨a6,aC⟩:=aC
            simp only [lK,ex,kO,kP] at gv
            exfalso;apply gv.1;rw [aC];simp
        | cons A ar b6 =>
          intro kS b2 ty gv aC
          cases kS with
          | nil =>
            simp only [lK,oo,oR] at aC
            obtain ⟨a6,aC⟩:=aC
            simp only [oo,ex,kO,kP] at gv
            exfalso;apply gv.1;rw [a6];simp
          | cons ig kS =>
            simp only [oo,oR] at aC
            simp only [oo,ex,kO,kP] at gv
            obtain ⟨G,J⟩:=b6 kS b2 ty gv.2 aC.2
            exact ⟨by rw [G,aC.1],J⟩
      exact ea ar kS b2 ty (G ▸ aw) (G.symm.trans yg)
    obtain ⟨rfl,rfl⟩:=sK
    refine (a'.o3 (eu:=(e' H.eK k (m.1,aG)).map mn) (qM:=kS.map mn) (p':=ty.map mn) (b2:=mn (k,(m.1,aG))) (by rw [U6];simp)).trans (KJ ?_)
    rw [U6]
    conv=>lhs;rw [G]
    simp [k3]
  · have:ar.map mn++b2.map mn=(e3 H.eK k).map mn:=by rw [aA];simp
    rw [this]
    exact KJ rfl
def axk(ba:cx H.eK k=none)(A:Nat)(aG y4:List (Int×Int))(vw:List (Int×Int)):a' [cw A (Value.int .i64) aG,c1 (H.eK.map mn),ai n [.map (some H.p),.map (some H.v)] Y,cw H.p (Value.int .i64) vw,cw H.v k3 (e' H.eK k (A,y4))] [hF Y n ⟨H.p,H.v,vw,e' H.eK k (A,aG)⟩]:=by
  refine (a'.I' (b2:=cw A (Value.int .i64) aG)).trans ?_
  have:H.eK.map mn++[cw A (Value.int .i64) aG]=(e' H.eK k (A,aG)).map mn:=by rw [F_ ba];simp [mn]
  rw [this]
  refine KJ ?_
  rw [F_ ba,F_ ba]
  simp [k3]
def aae{p v:Nat}:a' [ai n [.map (some p),.map (some v)] Y,cw p (Value.int .i64) [],cw v k3 []] [hF Y n ⟨p,v,[],[]⟩]:=a'.new.trans (KJ (FT:=[]) rfl)
end
end Go.LK
namespace Go.LK.bj
open Go Go.LK
def aq'{f:List cI}{k:Int}:(mv f k).length≤f.length:=by unfold mv;rw [fc];exact kv _ _
def cut(e:List cI)(f:List Int)(d:Nat):List cI:=(f.take d).foldl c8 e
def he{e:List cI}{f:List Int}{d:Nat}{i:Int}(c:f[d]?=some i):cut e f (d+1)=c8 (cut e f d) i:=by
  unfold cut;rw [hx,c,p6];rfl
def UL:∀ {f:List Int} {e:List cI},f.foldl c8 e=e.filter fun n=>decide (n.call∉f)
  | [],e=>(rk.2 fun _ _=>by simp).symm
  | i :: f,e=>by
    rw [DA,UL,c8,KY]
    refine KO fun n _=>?_
    by_cases c:n.call=i<;>simp [c]
def aif{e:List cI}{k:Int}{d:Nat}(bp:bn.jD (bb e))(R:(mv e k).length≤d):cut e (mv e k) d=drop e k:=by
  unfold cut drop
  rw [ir R,UL]
  refine KO fun n ad=>?_
  have cN:n.call∈mv e k↔n.ff=k:=by
    rw [Pj bp]
    have:dX e n.call=some n.ff:=by
      clear R
      induction e with
      | nil=>simp at ad
      | cons A e b6 =>
        have ph:=l7.1 (show List.Pairwise (· < ·) (A.call :: bb e) from bp)
        simp only [dX]
        rcases fb.1 ad with rfl|ad
        · simp
        · have:=ph.1 n.call (bx.2 ⟨n,ad,rfl⟩)
          rw [be E]
          exact b6 ph.2 ad
    rw [this];simp
  simp [cN]
end Go.LK.bj
namespace Go.LK.bj
open Go Go.LK
section
variable {f e:List cI} {i k v:Int} {d:Nat} {r:cI}
def Kt{z:cI→Bool}(Q:f[d]?=some r):(f.take (d+1)).filter z=(f.take d).filter z++(if z r then [r] else []):=by
  rw [hx,Q,jg]
  by_cases c:z r<;>simp [c]
def QD(Q:f[d]?=some r)(c:¬r.call=i):c8 (f.take (d+1)) i=c8 (f.take d) i++[r]:=by
  unfold c8;rw [Kt Q,ee sg]
def QC(Q:f[d]?=some r)(c:r.call=i):c8 (f.take (d+1)) i=c8 (f.take d) i:=by
  unfold c8;rw [Kt Q,be sg];simp
def aiG(Q:f[d]?=some r)(c:¬r.ff=k):drop (f.take (d+1)) k=drop (f.take d) k++[r]:=by
  unfold drop;rw [Kt Q,ee sg]
def aiF(Q:f[d]?=some r)(c:r.ff=k):drop (f.take (d+1)) k=drop (f.take d) k:=by
  unfold drop;rw [Kt Q,be sg];simp
def Uj(Q:f[d]?=some r):f.drop d=r :: f.drop (d+1):=by
  obtain ⟨R,aC⟩:=dD.1 Q
  rw [qF R,aC]
def aov(c:dX f i=dX (f.drop d) i)(Q:f[d]?=some r)(aw:¬r.call=i):dX f i=dX (f.drop (d+1)) i:=by
  rw [c,Uj Q];simp [dX,aw]
def aot(c:dX f i=dX (f.drop d) i)(Q:f[d]?=some r)(aw:r.call=i):dX f i=some r.ff:=by
  rw [c,Uj Q];simp [dX,aw]
def aou(c:dX f i=dX (f.drop d) i)(R:¬d < f.length):dX f i=none:=by
  rw [c,Dt E];rfl
def xG(f:List cI)(i:Int)(d:Nat):Prop:=∀ b r,b < d→f[b]?=some r→r.call < i
def xG.zero:xG f i 0:=fun b r c=>by omega
def xG.next(c:xG f i d)(Q:f[d]?=some r)(ca:r.call < i):xG f i (d+1):=fun b mb ac aC=>by
  rcases mR b d with G|G
  · exact c b mb G aC
  · have:b=d:=by omega
    subst this
    rw [Q] at aC;cases aC;exact ca
def OQ:∀ {f:List cI} {d:Nat},xG f i d→d≤f.length→(∀ r,f[d]?=some r→¬r.call < i)→f.take d++[⟨i,k⟩]++f.drop d=hO f i k
  | [],d,_,R,_=>by
    have:d=0:=by simpa using R
    subst this;rfl
  | n :: f,0,_,_,Of=>by
    have:=Of n rfl
    simp [hO,this]
  | n :: f,d+1,V,R,Of=>by
    have bB:=V 0 n E rfl
    have b6:=OQ (f:=f) (d:=d) (fun b r ac aC=>V (b+1) r E (by simpa using aC)) (by simpa using R) (fun r aC=>Of r (by simpa using aC))
    simp only [hO,ee bB,GM,za,oo,b6]
def I_:(hO f i k).length=f.length+1:=by
  induction f with
  | nil=>rfl
  | cons n f b6=>simp only [hO];split<;>simp [b6]
def tl:(c8 f i).length≤f.length:=kv _ _
def rF:(drop f k).length≤f.length:=kv _ _
def Tm(c:(dX f i).isSome=true):add f i k=f:=by rw [add,ee c]
def To(c:(dX f i).isSome=false):add f i k=hO f i k:=by rw [add,be sg]
end
end Go.LK.bj
