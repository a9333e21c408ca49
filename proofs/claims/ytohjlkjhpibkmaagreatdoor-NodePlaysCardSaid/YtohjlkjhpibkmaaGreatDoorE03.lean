/-
  Rules and plain laws that the walks use.
-/
import Derived.Test.YtohjlkjhpibkmaaGreatDoorE02
import Derived.RangeFuncKeeps
import Derived.RangeFuncLeaves
import Derived.RangeFuncCalls
import Derived.TacticsIn
import Derived.RangeFuncRecord
import Derived.Sort.Grow
import Derived.Deep.Draws
import Derived.Lib.ConvBytes
import Derived.Lib.LaidTab
import Derived.Lib.ItoaNum
import Derived.Lib.ParseIntBTie
import Derived.Lib.IndexMore
import Derived.Laws.BytesString
import Derived.Lib.Split
import Derived.Test.YtohjlkjhpibkmaaGreatDoorE01
import Derived.Laws.RangeAny
import Derived.LaidLaws
import Derived.ChangeSame
import Derived.Lib.Builder
import Derived.Lib.AppendStr
import Derived.Lib.UnsafeStr
import Derived.Laws.Externs
import Derived.Laws.Pointers
import Derived.Maps.RangeRun
set_option linter.all false
namespace Go.LK
open Go Go.RowKit
abbrev kg(b0:Option Nat):Fence:={ Fence.wide with round:=b0 }
structure l9 (s:Nat) (fQ:List Deferred) (l:Act) (D:bW):Prop where
  size:l.tmps.size=s
  defers:l.defers=fQ
  cC:∀ u m,gx D u=some m→l.tmps.getD u undef=m
def iT(l:Act):Act:={ l with defers:=[] }
def l9.iT{s:Nat}{fQ:List Deferred}{l:Act}{D:bW}(c:l9 s fQ l D):hH s (iT l) D:=⟨c.size,rfl,c.cC⟩
def H2(l:Act):(iT l).eval=l.eval:=by
  funext e
  cases e<;>rfl
def l9.aT{s:Nat}{fQ:List Deferred}{l:Act}{D:bW}{e:Operand}{m:Value}(c:l9 s fQ l D)(Q:aT D e=some m):l.eval e=m:=by
  rw [←H2];exact c.iT.aT Q
def l9.put{s y:Nat}{fQ:List Deferred}{l:Act}{D:bW}(c:l9 s fQ l D)(m:Value)(ao:Nat.blt y s=true):l9 s fQ (l.put (some y) m) ((y,m) :: D):=by
  have:=c.iT.put m ao
  exact ⟨this.size,c.defers,this.cC⟩
def l9.sub{s:Nat}{fQ:List Deferred}{l:Act}{D du:bW}(c:l9 s fQ l D)(W:lu du D):l9 s fQ l du:=⟨c.size,c.defers,(c.iT.sub W).cC⟩
def GC{o:Program}{b0:Option Nat}{t:Nat}{v:Oper}{l p:Act}{j:World}{hs:Act→World→Prop}{cz:Exit→Act→World→Prop}{bo:Value→List aB→World→Prop}(gv:∀ i,v.op≠.defer i)(Q:execOp l.eval v=execOp p.eval v)(ao:∀ y,v.dst=some y→y < p.tmps.size)
    (c:v.wp o p j (fun jE bQ=>∃ m B,jE=p.put v.dst m∧bo m B bQ) (fun _ _ _=>False)) (dj:∀ m B bQ,bo m B bQ→hs (l.put v.dst m) bQ):v.wpIn (kg b0) t o l j hs cz:=by
  have key:∀ vN bQ,(∃ m B,p.put v.dst vN=p.put v.dst m∧bo m B bQ)→hs (l.put v.dst vN) bQ:=by
    exact adi
  refine ⟨fun _ _=>trivial,?_⟩
  rw [Oper.semAt_eq b0 _ v gv,Q]
  unfold Oper.wp at c
  revert c
  generalize (execOp p.eval v).run o j=Z
  intro c
  unfold Oper.upon at c
  split at c
  · exact key _ _ c
  · exact key _ _ c
  · exfalso
    obtain ⟨m,B,aC,_⟩:=c
    have:=dz Act.defers aC
    rw [De,De] at this
    exact absurd (dz List.length this) oU
  · rw [Oper.uponIn_enter]
    refine ⟨fun c=>(by cases c),?_⟩
    refine CallsIn.mono (show CallsIn (kg b0) (t-1) o _ _ _ _ from callsIn_wide.2 c) ?_
    intro r bQ gH
    cases r with
    | returned m=>exact key _ _ gH
    | panicked wE=>exact gH.elim
    | outgrown=>obtain ⟨_,_,bc⟩:=gH;exact bc.elim
  · rw [Oper.uponIn_row]
    refine ⟨fun c=>(by cases c),fun i ay _=>?_⟩
    obtain ⟨m,bQ,G,J⟩:=c i ay
    exact ⟨m,bQ,key _ _ G,stepsIn_wide.2 J⟩
  · exact c.elim
  · exact c.elim
structure mz where
  b0:Option Nat
  lO:Nat
  fQ:List Deferred
  fS:Exit→Act→World→Prop
def j0(o:Program)(b:mz):List eH→Exit→Act→World→Prop
  | []=>b.fS
  | .code e :: d=>Exit.then (e.wpIn (kg b.b0) b.lO o (j0 o b d)) (j0 o b d)
  | .cE id :: d=>Exit.inBlock id (j0 o b d)
  | .po :: d=>Exit.noGoto (j0 o b d)
  | .gW cZ :: d=>Exit.then cZ (j0 o b d)
def bl(i:cM)(b:mz)(d:List eH)(D:bW)(C:List aB):Prop:=i.bC→∀ l j,l9 i.s b.fQ l D→cl i.an i.bL C j→j0 i.o b d .normal l j
def bX(i:cM)(b:mz)(ak:Array Oper)(bv:List Oper)(d:List eH)(D:bW)(C:List aB):Prop :=
  i.bC→∀ l j,l9 i.s b.fQ l D→cl i.an i.bL C j→wpListIn (kg b.b0) b.lO i.o ak (j0 i.o b d) bv l j
section
variable {i:cM} {b:mz} {d:List eH} {D:bW} {C:List aB}
def bl.seq{e F:Code}(c:bl i b (.code e :: .code F :: d) D C):bl i b (.code (.seq e F) :: d) D C:=fun ok l j V W=>wpIn_seq (c ok l j V W)
def bl.block{id:Nat}{e:Code}(c:bl i b (.code e :: .cE id :: d) D C):bl i b (.code (.block id e) :: d) D C:=fun ok l j V W=>wpIn_block (c ok l j V W)
def bl.cE{id:Nat}(c:bl i b d D C):bl i b (.cE id :: d) D C:=fun ok l j V W=>c ok l j V W
def bl.skip(c:bl i b d D C):bl i b (.code .skip :: d) D C:=fun ok l j V W=>wpIn_skip (c ok l j V W)
def bl.lN{e:Operand}{p:Bool}{u z:Code}(Q:aT D e=some (.bool p))(av:p=true)(bA:bl i b (.code u :: d) D C):bl i b (.code (.cond e u z) :: d) D C:=fun ok l j V W =>
  wpIn_cond_true Lq (bA ok l j V W)
def bl.fZ{e:Operand}{p:Bool}{u z:Code}(Q:aT D e=some (.bool p))(av:p=false)(bc:bl i b (.code z :: d) D C):bl i b (.code (.cond e u z) :: d) D C:=fun ok l j V W =>
  wpIn_cond_false Lq (bc ok l j V W)
def bl.cond{e:Operand}{p:Bool}{u z:Code}(Q:aT D e=some (.bool p))(bA:p=true→bl i b (.code u :: d) D C)(bc:p=false→bl i b (.code z :: d) D C) :
    bl i b (.code (.cond e u z) :: d) D C:=fun ok l j V W=>wpIn_cond_split (V.aT Q) (fun r=>bA r ok l j V W) (fun r=>bc r ok l j V W)
def bl.region{id:Nat}{f:List Oper}(c:bX i b f.toArray f d D C):bl i b (.code (.region id f.toArray false) :: d) D C:=fun ok l j V W=>wpIn_region_lit (c ok l j V W)
def bX.nil{ak:Array Oper}(c:bl i b d D C):bX i b ak [] d D C:=fun ok l j V W=>c ok l j V W
def bl.Kz(du:bW)(W:lu du D)(c:bl i b d du C):bl i b d D C:=fun ok l j V ci=>c ok l j (V.sub W) ci
def bl.dB(bt:List Nat)(B:List aB)(aw:bt.Nodup)(dv:LK.dB C bt=B)(c:bl i b d D B):bl i b d D C:=fun ok l j V ci=>c ok l j V (dv ▸ ci.dB aw)
variable {ak:Array Oper} {bv:List Oper} {v:Op} {aX:TypeId} {y:Nat} {pos:String} {cT:Array Edge} {m:Value}
def vs:Op→Bool|.defer _=>false|_=>true
def C8{v:Op}(c:vs v=true):∀ i,v≠.defer i:=fun i r=>by subst r;cases c
def bX.f{ah:Value→List aB→Prop}(S:aq i D C v aX ah)(ao:Nat.blt y i.s=true)(c:∀ m B,ah m B→bX i b ak bv d ((y,m) :: D) B)(gv:vs v=true:=by rfl):bX i b ak (⟨some y,v,aX,pos,cT,none⟩ :: bv) d D C:=fun ok l j V W =>
  wpListIn_plain rfl fun _ dj=>GC (p:=iT l) (bo:=fun m B bQ=>ah m B∧cl i.an i.bL B bQ) (C8 gv) G3 (fun sA lT=>by cases lT;rw [V.iT.size];exact kc ao)
    (S ok (iT l) j V.iT W _ _ _ _ _ _ fun m B _ dI eY=>⟨m,B,rfl,dI,eY⟩) fun m B bQ ld=>dj _ _ (c m B ld.1 ok _ bQ (V.put m ao) ld.2)
def bX.cq{ah:Value→List aB→Prop}(S:aq i D C v aX ah)(c:∀ m B,ah m B→bX i b ak bv d D B)(gv:vs v=true:=by rfl):bX i b ak (⟨none,v,aX,pos,cT,none⟩ :: bv) d D C:=fun ok l j V W =>
  wpListIn_plain rfl fun _ dj=>GC (p:=iT l) (bo:=fun m B bQ=>ah m B∧cl i.an i.bL B bQ) (C8 gv) G3 (fun sA lT=>by cases lT)
    (S ok (iT l) j V.iT W _ _ _ _ _ _ fun m B _ dI eY=>⟨m,B,rfl,dI,eY⟩) fun m B bQ ld=>dj _ _ (c m B ld.1 ok _ bQ V ld.2)
def bX.A(a6:aV i D C v aX m)(ao:Nat.blt y i.s=true)(c:bX i b ak bv d ((y,m) :: D) C)(gv:vs v=true:=by rfl):bX i b ak (⟨some y,v,aX,pos,cT,none⟩ :: bv) d D C :=
  bX.f (ah:=fun aG B=>aG=m∧B=C) (fun ok l j V W y pos cT L bN cz dj=>lJ (a6 ok l j V W _ _ _ _) (dj m C j ⟨rfl,rfl⟩ W)) ao (by rintro _ _ ⟨rfl,rfl⟩;exact c) gv
def bX.n(a6:U i D v aX m)(ao:Nat.blt y i.s=true)(c:bX i b ak bv d ((y,m) :: D) C)(gv:vs v=true:=by rfl):bX i b ak (⟨some y,v,aX,pos,cT,none⟩ :: bv) d D C:=bX.A a6.dg ao c gv
def Eh{o:Program}{b:mz}{id:Nat}{l:Act}{j:World}:∀ {d cD:List eH},nI id d=some cD→j0 o b cD .normal l j→j0 o b d (.exit id) l j
  | [],_,c,_=>by simp [nI] at c
  | .cE k :: d,cD,c,a6=>by
    simp only [nI] at c
    simp only [j0,Exit.inBlock]
    cases av:Nat.beq k id
    · rw [av] at c
      have ea:¬id=k:=fun r=>by subst r;simp at av
      have:=Eh (b:=b) (l:=l) (j:=j) G4 a6
      simpa [ea] using this
    · rw [av] at c
      have aC:k=id:=Br av
      subst aC
      simp at c;subst c
      simpa using a6
  | .code e :: d,cD,c,a6=>Eh (d:=d) abm a6
  | .po :: d,cD,c,a6=>Eh (d:=d) abm a6
  | .gW cZ :: d,cD,c,a6=>Eh (d:=d) abm a6
def bl.exit{id:Nat}(cD:List eH)(ad:nI id d=some cD)(c:bl i b cD D C):bl i b (.code (.exit id) :: d) D C:=fun ok l j V W=>wpIn_exit (Eh ad (c ok l j V W))
def Ej{o:Program}{b:mz}{l:Act}{j:World}:∀ {d:List eH},b.fS .ret l j→j0 o b d .ret l j
  | [],c=>c
  | .cE _ :: d,c=>Ej (d:=d) c
  | .code _ :: d,c=>Ej (d:=d) c
  | .po :: d,c=>Ej (d:=d) c
  | .gW _ :: d,c=>Ej (d:=d) c
def bl.ret(c:i.bC→∀ l j,l9 i.s b.fQ l D→cl i.an i.bL C j→b.fS .ret l j):bl i b (.code .ret :: d) D C:=fun ok l j V W=>wpIn_ret (Ej (c ok l j V W))
def bl.done(c:i.bC→∀ l j,l9 i.s b.fQ l D→cl i.an i.bL C j→b.fS .normal l j):bl i b [] D C:=c
def OR{bo:Type}(i:cM)(b:mz)(dH:bo→Prop)(gY:bo→bW)(cJ:bo→List aB)(iO:bo→Nat)(t:Nat)(l:Act)(j:World):Prop :=
  ∃ e,dH e∧iO e < t∧l9 i.s b.fQ l (gY e)∧cl i.an i.bL (cJ e) j
def bl.loop{bo:Type}(dH:bo→Prop)(gY:bo→bW)(cJ:bo→List aB)(iO:bo→Nat){e:Code}(bK:bo)(bB:dH bK)(ie:lu (gY bK) D)(bt:List Nat)(aw:bt.Nodup)(dv:LK.dB C bt=cJ bK)
    (round:∀ F,dH F→bl i b (.code e :: .gW (OR i b dH gY cJ iO (iO F)) :: d) (gY F) (cJ F)):bl i b (.code (.loop e) :: d) D C:=fun ok l j V W=>by
  have ci:cl i.an i.bL (cJ bK) j:=dv ▸ W.dB aw
  have d_:=V.sub ie
  show (Code.loop e).wpIn (kg b.b0) b.lO i.o (j0 i.o b d) l j
  intro p oK ay fM av cs
  have key:∀ t F l j,iO F=t→dH F→l9 i.s b.fQ l (gY F)→cl i.an i.bL (cJ F) j →
      ∃ r jE bQ,j0 i.o b d r jE bQ∧ArrivesIn (Machine.fenced i.o (kg b.b0)) i.o (lone (p.atR l (.code e :: .inLoop e :: oK)) ay j) p oK ay r jE bQ:=by
    intro t
    induction t using Nat.strongRecOn with
    | _ t b6 =>
      intro F l j bh az V W
      have akg:e.wpIn (kg b.b0) b.lO i.o (j0 i.o b (.gW (OR i b dH gY cJ iO (iO F)) :: d)) l j:=round F az ok l j V W
      obtain ⟨r,n4,oj,a6,lS⟩:=akg p (.inLoop e :: oK) ay fM av cs
      cases r with
      | normal =>
        obtain ⟨hj,jM,ca,E3,eY⟩:=a6
        obtain ⟨Ih,HZ,KK,I0,IJ⟩:=b6 (iO hj) (bh ▸ ca) hj n4 oj rfl jM E3 eY
        exact ⟨Ih,HZ,KK,I0,.of_steps (StepsIn.trans lS (.one (fenced_calm av cs rfl) stepR_inLoop)) IJ⟩
      | exit id=>exact ⟨_,n4,oj,a6,.pass (x:=.inLoop e) rfl (fun _ _=>.inl oU) lS⟩
      | goto f=>exact ⟨_,n4,oj,a6,.pass (x:=.inLoop e) rfl (fun _ _=>.inl oU) lS⟩
      | ret=>exact ⟨_,n4,oj,a6,.pass (x:=.inLoop e) rfl (fun _ _=>.inl oU) lS⟩
      | panic wE=>exact ⟨_,n4,oj,a6,.pass (x:=.inLoop e) rfl (fun _ _=>.inl oU) lS⟩
      | outgrown=>exact ⟨_,n4,oj,a6,.pass (x:=.inLoop e) rfl (fun _ _=>.inl oU) lS⟩
  obtain ⟨r,jE,bQ,a6,lS⟩:=key (iO bK) bK l j rfl bB d_ ci
  exact ⟨r,jE,bQ,a6,.of_steps (.one (fenced_calm av cs rfl) stepR_loop) lS⟩
def bl.gW{bo:Type}{dH:bo→Prop}{gY:bo→bW}{cJ:bo→List aB}{iO:bo→Nat}{t:Nat}(F:bo)(kI:dH F)(bh:iO F < t)(ie:lu (gY F) D)(bt:List Nat)(aw:bt.Nodup)(dv:LK.dB C bt=cJ F) :
    bl i b (.gW (OR i b dH gY cJ iO t) :: d) D C:=fun _ _ _ V W=>⟨F,kI,bh,V.sub ie,dv ▸ W.dB aw⟩
end
end Go.LK
namespace Go.LK
open Go Go.RowKit
def O9(fn:FuncId)(tmps:Array Value)(af:Array Tmp)(assign body:Code)(b5:Nat)(dC:LoopState)(FZ:Option Code):Loop:={ state:=dC,pending:=FZ,fn,tmps,params:=af,assign,body,defers:=b5 }
def cl.putObj{an j:World}{bL:List Nat}{C:List aB}(c:cl an bL C j){b f:Nat}{v jo:Obj}(ac:C[b]?=some (cE f v)):cl an bL (C.set b (cE f jo)) (j.putObj f jo):=by
  have S:j.heap[f]?=some v:=c.cC _ (eF ac)
  have ca:=(qE.1 S).1
  refine c.set ac ⟨rfl,rfl,rfl,by simp,fun d _ R=>?_⟩ (World.putObj_heap_same ca) (fun d R=>.inl R)
  exact World.putObj_heap_other (fun r=>R (by simp [cE,r]))
def Ie:List Tmp→List Value→bW→bW
  | n :: af,m :: ae,D=>Ie af ae ((n,m) :: D)
  | _,_,D=>D
def N1{s:Nat}:∀ {af:List Tmp} {ae:List Value} {u:Array Value} {D:bW},(∀ n∈af,Nat.blt n s=true)→l9 s [] { tmps:=u,defers:=[] } D→ae.length=af.length →
    l9 s [] { tmps:=(af.zip ae).foldl (fun u (n,m)=>u.setIfInBounds n m) u,defers:=[] } (Ie af ae D)
  | [],[],_,_,_,c,_=>c
  | [],_ :: _,_,_,_,_,S=>by simp at S
  | _ :: _,[],_,_,_,_,S=>by simp at S
  | n :: af,m :: ae,u,D,av,c,S=>by
    have G:=c.put m (av n oU)
    exact N1 (af:=af) (ae:=ae) (fun A a6=>av A aa') G Lw
def Mi(i:cM){bo:Type}(rec:LoopState→Option Code→Loop)(f b5:Nat)(dH:Nat→bo→Prop)(cJ:bo→List aB)(d:Nat)(aJ:World):Prop :=
  ∃ F,dH d F∧cl i.an i.bL (cE f (.loop (rec .ready none)) :: cE b5 (.deferred (some [])) :: cJ F) aJ
def Mj(i:cM){N:Type}(rec:LoopState→Option Code→Loop)(f b5:Nat)(hR:Code→N→Prop)(hk:N→List aB)(aJ:World):Prop :=
  ∃ e aI,hR e aI∧cl i.an i.bL (cE f (.loop (rec .done (some e))) :: cE b5 (.deferred (some [])) :: hk aI) aJ
def mB(i:cM){bo N:Type}(rec:LoopState→Option Code→Loop)(f b5:Nat)(dH:Nat→bo→Prop)(cJ:bo→List aB)(hR:Code→N→Prop)(hk:N→List aB)(d:Nat):Exit→Act→World→Prop :=
  roundPost i.o f fun r dY=>(r=.returned (.bool true)∧Mi i rec f b5 dH cJ (d+1) dY)∨(r=.returned (.bool false)∧Mj i rec f b5 hR hk dY)
def L3(i:cM)(b:mz)(f:Nat)(body:Code)(l:Act)(j:World):Prop:=∃ k5,(Instr.beginRound f).run i.o j=.ok () k5∧body.wpIn (kg b.b0) b.lO i.o b.fS l k5
def cl.tail{an j:World}{bL:List Nat}{ar:aB}{C:List aB}(c:cl an bL (ar :: C) j):cl an bL C j :=
  ⟨c.aE,fun b2 dP=>c.cC b2 (gS _ dP),(l7.1 c.gX).2,fun d R=>c.mu d (by
    obtain ⟨b2,dP,R⟩:=jO.1 R
    exact jO.2 ⟨b2,gS _ dP,R⟩)⟩
def xO{o:Program}{b:mz}{fQ:List Deferred}:∀ {d:List eH},j0 o { b with fQ:=fQ } d=j0 o b d
  | []=>rfl
  | .code e :: d=>by simp only [j0];rw [xO (d:=d)]
  | .cE id :: d=>by simp only [j0];rw [xO (d:=d)]
  | .po :: d=>by simp only [j0];rw [xO (d:=d)]
  | .gW cZ :: d=>by simp only [j0];rw [xO (d:=d)]
section
variable {i:cM} {b:mz} {d:List eH} {D:bW} {C:List aB}
def bl.begin{r0:mz}{f:Nat}{Z:Loop}{body:Code}{rr:List aB}(cs:Z.state=.ready)(c:bl i b [.code body] D (LK.cE f (.loop { Z with state:=.busy }) :: rr))(akr:r0.fQ=b.fQ:=by rfl):bl i r0 [.gW (L3 i b f body)] D (LK.cE f (.loop Z) :: rr):=fun ok l j V W=>by
  have S:j.heap[f]?=some (.loop Z):=W.cC (LK.cE f (.loop Z)) oU
  exact ⟨_,run_beginRound S cs,c ok l _ (akr ▸ V) (W.putObj (b:=0) rfl)⟩
def mB.next{bo N:Type}{rec:LoopState→Option Code→Loop}{f b5:Nat}{dH:Nat→bo→Prop}{cJ:bo→List aB}{hR:Code→N→Prop}{hk:N→List aB}{t:Nat}{Z:Loop}(F:bo)(az:dH (t+1) F)(dI:b.fS=mB i rec f b5 dH cJ hR hk t)(jk:{ Z with state:=.ready,pending:=none }=rec .ready none)
    (dv:C=cE f (.loop Z) :: cE b5 (.deferred (some [])) :: cJ F):bl i b [] D C:=fun _ l j _ W=>by
  subst dv
  have S:j.heap[f]?=some (.loop Z):=W.cC (LK.cE f (.loop Z)) oU
  show b.fS .normal l j
  rw [dI]
  refine ⟨_,_,run_endRound none S,.inl ⟨rfl,F,az,?_⟩⟩
  have:=W.putObj (b:=0) (f:=f) (jo:=.loop { Z with state:=.ready,pending:=none }) rfl
  rw [jk] at this
  have bP:(Obj.loop { Z with state:=.ready,pending:=none })=.loop (rec .ready none):=dz _ jk
  show cl i.an i.bL _ (j.putObj f (Obj.loop { Z with state:=.ready,pending:=none }))
  rw [bP]
  exact this
def mB.kL{bo N:Type}{rec:LoopState→Option Code→Loop}{f b5:Nat}{dH:Nat→bo→Prop}{cJ:bo→List aB}{hR:Code→N→Prop}{hk:N→List aB}{t:Nat}{Z:Loop}{e:Code}{r:Exit}{l:Act}{j:World}(aI:N)(ce:hR e aI)(Q:(r=.ret∧e=.ret)∨∃ id,r=.exit id∧e=.exit id)
    (jk:∀ e,{ Z with state:=.done,pending:=some e }=rec .done (some e)) (W:cl i.an i.bL (LK.cE f (.loop Z) :: LK.cE b5 (.deferred (some [])) :: hk aI) j):mB i rec f b5 dH cJ hR hk t r l j:=by
  have S:j.heap[f]?=some (.loop Z):=W.cC (LK.cE f (.loop Z)) oU
  have G:cl i.an i.bL (LK.cE f (.loop (rec .done (some e))) :: LK.cE b5 (.deferred (some [])) :: hk aI) (j.putObj f (.loop { Z with state:=.done,pending:=some e })):=by
    have J:=W.putObj (b:=0) (f:=f) (jo:=.loop { Z with state:=.done,pending:=some e }) rfl
    have bP:(Obj.loop { Z with state:=.done,pending:=some e })=.loop (rec .done (some e)):=dz _ (jk e)
    rw [bP] at J ⊢
    exact J
  have aA:=run_endRound (P:=i.o) (some e) S
  rcases Q with ⟨rfl,rfl⟩|⟨id,rfl,rfl⟩
  · exact ⟨_,_,aA,.inr ⟨rfl,_,aI,ce,G⟩⟩
  · exact ⟨_,_,aA,.inr ⟨rfl,_,aI,ce,G⟩⟩
end
def cM.at(i:cM)(aJ:World):cM:={ i with an:=aJ,bL:=[] }
def Mh(i:cM)(b:mz)(d:List eH)(D:bW)(aJ:World):Prop:=∀ l,l9 i.s b.fQ l D→j0 i.o b d .normal l aJ
def BR(i:cM)(b:mz)(ak:Array Oper)(bv:List Oper)(d:List eH)(D:bW)(aJ:World):Prop :=
  ∀ l,l9 i.s b.fQ l D→wpListIn (kg b.b0) b.lO i.o ak (j0 i.o b d) bv l aJ
section
variable {i:cM} {b:mz} {d:List eH} {D:bW} {aJ:World}
def Mh.cE{id:Nat}(c:Mh i b d D aJ):Mh i b (.cE id :: d) D aJ:=fun l V=>c l V
variable {ak:Array Oper} {bv:List Oper} {v:Op} {aX:TypeId} {y:Nat} {pos:String} {cT:Array Edge} {m:Value}
def BR.A(j8:(i.at aJ).bC)(a6:aV (i.at aJ) D [] v aX m)(ao:Nat.blt y i.s=true)(c:BR i b ak bv d ((y,m) :: D) aJ)(gv:vs v=true:=by rfl):BR i b ak (⟨some y,v,aX,pos,cT,none⟩ :: bv) d D aJ:=fun l V =>
  wpListIn_plain rfl fun _ dj=>GC (p:=iT l) (bo:=fun aG _ bQ=>aG=m∧bQ=aJ) (C8 gv) G3 (fun sA lT=>by cases lT;rw [V.iT.size];exact kc ao)
    (lJ (a6 j8 (iT l) aJ V.iT ⟨Frame.refl aJ [],fun ar bI=>(by cases bI),.nil,fun d R=>(by cases R)⟩ _ _ _ _) ⟨m,[],rfl,rfl,rfl⟩) fun aG _ bQ ld=>by
      exact acG
def BR.n(a6:U i D v aX m)(ao:Nat.blt y i.s=true)(c:BR i b ak bv d ((y,m) :: D) aJ)(gv:vs v=true:=by rfl):BR i b ak (⟨some y,v,aX,pos,cT,none⟩ :: bv) d D aJ:=fun l V =>
  wpListIn_plain rfl fun _ dj=>GC (p:=iT l) (bo:=fun aG _ bQ=>aG=m∧bQ=aJ) (C8 gv) G3 (fun sA lT=>by cases lT;rw [V.iT.size];exact kc ao)
    (lJ (a6 (iT l) aJ V.iT _ _ _ _) ⟨m,[],rfl,rfl,rfl⟩) fun aG _ bQ ld=>by
      exact acG
end
def Tu{s:Nat}{args:List Value}(h9:Nat.ble args.length s=true):l9 s [] { tmps:=args.toArray++Array.replicate (s-args.toArray.size) undef,defers:=[] } (wG 0 args):=by
  have ug:=kc h9
  refine ⟨by simp;omega,rfl,fun u m bA=>?_⟩
  obtain ⟨_,J⟩:=Xb args 0 u m bA
  simp only [Nat.sub_zero] at J
  obtain ⟨ca,rfl⟩:=dD.1 J
  simp [l6,aaC,ca]
def SN(i:cM)(t:Nat):Exit→Act→World→Prop:=bodyPostM (kg none) t i.o i.fn i.ah
def M.Ic{o:Program}{z:FuncId}{fn:Func}{body:Code}{args:List Value}{dO C:List aB}{post:Value→List aB→Prop}(s:Nat)(bc:o.funcs[z]?=some fn)(av:fn.body=some body)(aw:fn.ntmps=s)(h9:Nat.ble args.length s=true)
    (c:∀ j,bl { o:=o,fn:=fn,s:=s,an:=j,bL:=ei C,dO:=dO,ah:=pJ j (ei C) post } ⟨none,0,[],SN { o:=o,fn:=fn,s:=s,an:=j,bL:=ei C,dO:=dO,ah:=pJ j (ei C) post } 0⟩ [.code body] (wG 0 args) C):M o z args.toArray dO C post:=by
  intro j fM ci
  refine callsIn_wide.1 (show CallsIn (kg none) 0 o z _ j _ from callsIn_of_wp_marks bc av trivial ?_)
  rw [aw]
  exact c j fM _ j (Tu h9) ci
section
variable {i:cM} {b:mz} {d:List eH} {D:bW} {C:List aB}
def bl.PV{b5 k:Nat}(dI:b.fS=SN i b.lO)(ao:b.fQ=[{ target:=.collected b5,args:=#[] }])(ag:C[k]?=some (LK.cE b5 (.deferred (some []))))(bc:Fin i D (C.set k (LK.cE b5 (.deferred none)))):bl i b (.code .ret :: d) D C :=
  bl.ret fun ok l j V W=>by
    rw [dI]
    have S:j.heap[b5]?=some (.deferred (some [])):=W.cC (LK.cE b5 (.deferred (some []))) (eF ag)
    have bA:=run_takeDeferred (P:=i.o) S
    show LeavesInM (kg none) b.lO i.o i.fn l.tmps i.ah l.defers .returning j
    rw [V.defers,ao]
    refine ⟨by simp,.inl ⟨b5,_,rfl,bA,?_⟩⟩
    have G:=W.putObj (jo:=.deferred none) ag
    obtain ⟨m,ba,ajT⟩:=bc ok (iT l) _ V.iT G
    exact ⟨m,ba,ajT⟩
def mB.ret{bo N:Type}{rec:LoopState→Option Code→Loop}{f b5:Nat}{dH:Nat→bo→Prop}{cJ:bo→List aB}{hR:Code→N→Prop}{hk:N→List aB}{t:Nat}{Z:Loop}(aI:N)(ce:hR .ret aI)(dI:b.fS=mB i rec f b5 dH cJ hR hk t)
    (bt:List Nat) (aw:bt.Nodup) (dv:LK.dB C bt=LK.cE f (.loop Z) :: LK.cE b5 (.deferred (some [])) :: hk aI) (jk:∀ e,{ Z with state:=.done,pending:=some e }=rec .done (some e)):bl i b (.code .ret :: d) D C :=
  bl.ret fun _ _ _ _ W=>by
    rw [dI]
    exact mB.kL aI ce (.inl ⟨rfl,rfl⟩) jk (dv ▸ W.dB aw)
def mB.Ju{bo N:Type}{rec:LoopState→Option Code→Loop}{f b5:Nat}{dH:Nat→bo→Prop}{cJ:bo→List aB}{hR:Code→N→Prop}{hk:N→List aB}{t:Nat}{Z:Loop}(F:bo)(az:dH (t+1) F)(dI:b.fS=mB i rec f b5 dH cJ hR hk t)
    (bt:List Nat) (aw:bt.Nodup) (dv:LK.dB C bt=cE f (.loop Z) :: cE b5 (.deferred (some [])) :: cJ F) (jk:{ Z with state:=.ready,pending:=none }=rec .ready none):bl i b [] D C:=bl.dB bt _ aw dv (mB.next F az dI jk rfl)
end
end Go.LK
namespace Go.LK
open Go Go.RowKit
def aq.tQ{bi:Type}(z:bi→List Value){i:cM}{D:bW}{C:List aB}{Y u:TypeId}{H:Nat}{aX:TypeId}(cF:∀ j,(underlying Y).run i.o j=.ok (.slice u) j)(W:∀ j,(sizeOf u).run i.o j=.ok H j) :
    aq i D C (.buildSlice Y 0 #[]) aX fun m B=>B=row m u H (([]:List bi).map z) :: C:=fun _ l j V ci y pos cT L bN cz dj=>by
  refine lJ (m:=.slice (some ⟨j.heap.size,0,none⟩) 0 0) (bQ:=j.alloc (.cells #[] u)) ?_ (dj _ _ _ rfl (ci.add (Cq j _) ⟨?_,by simp⟩ zm))
  · simp only [execOp]
    simp [Instr.buildSlice,cF,W,Instr.fill,A_]
    rw [show Array.range 0=#[] from Q8 oU]
    simp
  · exact ⟨by simp,.inr ⟨j.heap.size,0,_,rfl,GG _,heap_alloc_new j _,oQ _,by simp [maxLen],by simp,by simp⟩⟩
def M4{bo:Type}(i:cM)(dH:bo→Prop)(gY:bo→bW)(cJ:bo→List aB)(l:Act)(j:World):Prop:=∃ e,dH e∧hH i.s l (gY e)∧cl i.an i.bL (cJ e) j
def K.Ci{i:cM}{d:List eH}{D:bW}{C:List aB}{bo:Type}(dH:bo→Prop)(gY:bo→bW)(cJ:bo→List aB){e:Code}(bv:∀ F,dH F→K i d (gY F) (cJ F))
    (first:K i (.code e :: .gW (M4 i dH gY cJ) :: d) D C):K i (.code e :: d) D C:=fun ok l j V W=>by
  have c:Code.wp i.o e (Exit.then (M4 i dH gY cJ) (i.cz d)) l j:=first ok l j V W
  refine Code.wp_mono (fun r l j A=>?_) c
  cases r with
  | normal =>
    obtain ⟨F,az,G,J⟩:=A
    exact bv F az ok l j G J
  | exit id=>exact A
  | goto f=>exact A
  | ret=>exact A
  | panic wE=>exact A
  | outgrown=>exact A
def K.sz{i:cM}{d:List eH}{D:bW}{C:List aB}{bo:Type}{dH:bo→Prop}{gY:bo→bW}{cJ:bo→List aB}(F:bo)(kI:dH F)(ie:lu (gY F) D)(bt:List Nat)(aw:bt.Nodup)(dv:LK.dB C bt=cJ F):K i (.gW (M4 i dH gY cJ) :: d) D C :=
  fun _ _ _ V W=>⟨F,kI,V.sub ie,dv ▸ W.dB aw⟩
end Go.LK
namespace Go.LK
open Go Go.RowKit
abbrev uH(f:List UInt8):Value:=.string ⟨f.toArray⟩
def avP(H:ByteArray):(.string H:Value)=uH H.data.toList:=by
  obtain ⟨⟨f⟩⟩:=H
  rfl
section
variable {i:cM} {D:bW} {e F aI:Operand} {Y aX:TypeId} {f t:List UInt8}
def U.conv{aj b5:TypeId}{d cD:IntKind}{s:Int}{fQ:TypeDesc}(aW:∀ j,(underlying aj).run i.o j=.ok fQ j)(mg:∀ j,(underlying b5).run i.o j=.ok (.int d) j)(Q:aT D e=some (.int cD s)):U i D (.convert aj b5 e) aX (.int d (d.wrap s)):=fun l j V _ _ _ _=>by
  simp [execOp,V.aT Q,convert,aW,mg,Conv.intToInt]
end
section
variable {i:cM} {D:bW} {e F:Operand} {Y aX:TypeId} {fE:IntKind} {t s:Int}
def U.quo(Q:aT D e=some (.int fE t))(az:aT D F=some (.int fE s))(c:¬s=0):U i D (.binOp .quo Y e F Y) aX (.int fE (fE.wrap (t.tdiv s))):=fun l j V _ _ _ _=>by simp [execOp,eqGuard,V.aT Q,V.aT az,binOp,Op.intDiv,c]
def U.rem(Q:aT D e=some (.int fE t))(az:aT D F=some (.int fE s))(c:¬s=0):U i D (.binOp .rem Y e F Y) aX (.int fE (t.tmod s)):=fun l j V _ _ _ _=>by simp [execOp,eqGuard,V.aT Q,V.aT az,binOp,Op.intDiv,c]
def U.xa(Q:aT D e=some (.b t))(az:aT D F=some (.b s))(bB:0≤t)(G:1≤s)(av:t≤9223372036854775807):U i D (.binOp .quo Y e F Y) aX (.b (t / s)):=by
  have c:=U.quo (i:=i) (Y:=Y) (aX:=aX) Q az E
  have J:t / s≤t:=Int.ediv_le_self s bB
  have aA:0≤t / s:=Int.ediv_nonneg bB E
  rw [Int.tdiv_eq_ediv_of_nonneg bB,AN E] at c
  exact c
def U.J6(Q:aT D e=some (.int fE t))(az:aT D F=some (.int fE s))(bB:0≤t)(G:1≤s):U i D (.binOp .rem Y e F Y) aX (.int fE (t%s)):=by
  have c:=U.rem (i:=i) (Y:=Y) (aX:=aX) Q az E
  rw [Int.tmod_eq_emod_of_nonneg bB] at c
  exact c
def U.us(Q:aT D e=some (.b t))(az:aT D F=some (.b s))(c:-9223372036854775808≤t*s∧t*s≤9223372036854775807):U i D (.binOp .mul Y e F Y) aX (.b (t*s)):=by
  have:=U.mul (i:=i) (Y:=Y) (aX:=aX) Q az;rwa [AN c] at this
def U.neg(Q:aT D e=some (.int fE t)):U i D (.unOp .neg Y e) aX (.int fE (fE.wrap (0-t))):=fun l j V _ _ _ _=>by simp [execOp,V.aT Q,Op.unary,Op.intArith]
end
end Go.LK
namespace Go.LK
open Go Go.RowKit
end Go.LK
namespace Go.LK
open Go Go.RowKit
section
variable {i:cM} {D:bW} {e F:Operand} {Y aX:TypeId} {z:Field} {aH:Array Field}
def U.isSome{iJ:Array (String×TypeId)}{cU:TypeId}{m:Value}(cF:i.o.underlying Y=some (.interface iJ))(Q:aT D e=some (.iface cU m)):U i D (.binOp .neq Y e (.const .nilIface) Y) aX (.bool true):=fun l j c _ _ _ _=>by
  have J:l.eval (.const .nilIface)=.nilIface:=rfl
  have aA:∀ y,(Op.equalIn (y+1) Y (.iface cU m) .nilIface).run i.o j=.ok false j:=fun y=>by simp [Op.equalIn,jf cF]
  have aZ:(binOp .neq Y (.iface cU m) .nilIface).run i.o j=.ok (.bool true) j:=by
    show (do pure (.bool (!(← Op.equal Y (.iface cU m) .nilIface))):Sem Value).run i.o j=_
    rw [nn,show Op.equal Y (.iface cU m) .nilIface=Op.equalIn (9999+1) Y (.iface cU m) .nilIface from rfl,aA]
    rfl
  have bT:eqGuard .neq Y e (.const .nilIface) (.iface cU m) .nilIface=pure ():=by cases e<;>rfl
  simp only [execOp,c.aT Q,J,bT]
  simp [aZ]
end
end Go.LK
namespace Go.LK
open Go Go.RowKit
section
variable {i:cM} {D:bW} {e:Operand} {Y aX:TypeId} {m:Value} {p:Bool} {iJ:Array (String×TypeId)}
end
end Go.LK
namespace Go.LK
open Go Go.RowKit
def U.O{i:cM}{D:bW}{v:Op}{aX:TypeId}{m sb:Value}(c:U i D v aX m)(r:m=sb):U i D v aX sb:=r ▸ c
end Go.LK
namespace Go.LK
open Go Go.RowKit
def au9{bi:Type}{z:bi→Value}{f:List bi}{b:Nat}{e:bi}(c:b < f.length):(f.map z).take b++[z e]++(f.map z).drop (b+[z e].length)=(f.set b e).map z:=by
  rw [←KU,GL,←Q3,KP,ee c]
  simp
def MA{bi:Type}{z:bi→Value}{f:List bi}{b:Nat}{e:bi}(c:f[b]?=some e):(f.map z)[b]?=some (z e):=by rw [hy,c];rfl
section
variable {i:cM} {D:bW} {C:List aB} {e F:Operand} {Y aX:TypeId} {fE:IntKind}
def U.oJ{len r L off H:Nat}{t:Int}(cF:∀ j,(underlying Y).run i.o j=.ok (.array len r) j)(W:∀ j,(sizeOf r).run i.o j=.ok H j)
    (Q:aT D e=some (.pointer (some ⟨L,off,none⟩))) (az:aT D F=some (.int fE t)) (bB:0≤t) (G:t < len):U i D (.indexAddr Y e F) aX (.pointer (some ⟨L,off+t.toNat*H,none⟩)):=fun l j V _ _ _ _=>by
  exact adB
end
section
variable {i:cM} {D:bW} {C:List aB} {e:Operand} {aj b5 aX:TypeId}
end
end Go.LK
namespace Go.LK
open Go Go.RowKit
def bH(s:Int):List Value:=[s]
def bH.one{f:List Int}:∀ l∈f,(bH l).all Value.oneCell'=true:=fun _ _=>rfl
end Go.LK
namespace Go.LK
def gf.ik(s:Int):Prop:=-9223372036854775808≤s∧s≤9223372036854775807
def gf.pw(f:List Int):Prop:=∀ e∈f,gf.ik e
end Go.LK
namespace Go.LK
open Go Go.RowKit Go.ChangeShapes Go.WideShapes Go.ChangeAt Go.Deep
def dh{a:Type}(cB:TypeId×Value→a)(o:Program)(aJ:World)(u:TypeId)(ay:List Value):Prop :=
  ∃ (kU:Nat) (e:DataW a×List MemPlace),DataW.trod cB o aJ 0 (fun _=>true) true kU u ay=some e
section
variable {a:Type} {cB:TypeId×Value→a} {o:Program} {aJ:World} {u r:TypeId} {ay:List Value}
def dh.eo{m:Value}{y:DataW a}{n:List MemPlace}(c:DataW.Trod cB o aJ 0 (fun _=>true) true u m y n):dh cB o aJ u m.cells.toList:=by
  obtain ⟨kU,bc⟩:=c
  exact ⟨kU,_,bc⟩
def dh.int(c:dh cB o aJ u ay)(bA:o.underlying u=some (.int .i64)):∃ A:Int,ay=[.b A]∧gf.ik A:=by
  obtain ⟨kU,e,bc⟩:=c
  obtain ⟨A,a6,_,bU⟩:=DataW.trod_int bA bc
  exact ⟨A,a6,bounds_i64 bU⟩
def dh.u64(c:dh cB o aJ u ay)(bA:o.underlying u=some (.int .u64)):∃ A:Nat,ay=[.int .u64 (A:Int)]∧A < 18446744073709551616:=by
  obtain ⟨kU,e,bc⟩:=c
  obtain ⟨A,a6,_,bU⟩:=DataW.trod_int bA bc
  have G:=bounds_u64 bU
  obtain ⟨s,rfl,aw⟩:∃ s:Nat,A=(Nat.cast s:Int)∧s < 18446744073709551616:=⟨A.toNat,by omega,by omega⟩
  exact ⟨s,a6,aw⟩
def dh.uH(c:dh cB o aJ u ay)(bA:o.underlying u=some .string):∃ f:List UInt8,ay=[uH f]:=by
  obtain ⟨kU,e,bc⟩:=c
  obtain ⟨H,W,_⟩:=DataW.trod_string bA bc
  obtain ⟨⟨f⟩⟩:=H
  exact ⟨f,W⟩
def dh.len{aH:Array Field}(c:dh cB o aJ u ay)(bA:o.underlying u=some (.struct aH)):ay.length=o.cellsOf u:=by
  obtain ⟨kU,e,bc⟩:=c
  obtain ⟨_,_,_,_,S,_⟩:=DataW.trod_struct bA bc
  exact S
def dh.field{aH:Array Field}(c:dh cB o aJ u ay)(bA:o.underlying u=some (.struct aH))(k:Nat)(z:Field)(ag:aH[k]?=some z):dh cB o aJ z.type ((ay.drop z.offset).take (o.cellsOf z.type)):=by
  obtain ⟨kU,e,bc⟩:=c
  obtain ⟨dq,s,_,_,_,S,ft⟩:=DataW.trod_struct bA bc
  have ca:k < aH.size:=(qE.1 ag).1
  exact ⟨s,dq[k]' E,by rw [ft k z ag];exact et E⟩
def dh.at{s:Nat}(c:dh cB o aJ u ay)(bA:o.underlying u=some (.array s r))(k:Nat)(ag:k < s):dh cB o aJ r ((ay.drop (k*o.cellsOf r)).take (o.cellsOf r)):=by
  obtain ⟨kU,e,bc⟩:=c
  obtain ⟨dq,t,_,_,_,S,ft⟩:=DataW.trod_array bA bc
  exact ⟨t,dq[k]' E,by rw [ft k ag];exact et E⟩
def he{bi:Type}{f e:List bi}{off s t:Nat}(c:(f.drop off).take s=e)(bh:off+s=t):f.drop off=e++f.drop t:=by
  subst bh
  rw [←c,←DH,kQ]
def x7{bi:Type}{f:List bi}{t:Nat}(c:f.length=t):f.drop t=[]:=Dt E
def dh.slice(c:dh cB o aJ u ay)(H:Nat)(nh:0 < H)(bA:o.underlying u=some (.slice r))(fL:o.cellsOf r=H) :
    ∃ (m:Value) (f:List (List Value)),ay=[m]∧oV aJ m H f∧∀ l∈f,dh cB o aJ r l:=by
  obtain ⟨kU,e,bc⟩:=c
  rcases open_slice bA bc with ⟨jb,_⟩|⟨l,len,cap,t,s,b5,fh,jb,_,alu,pP,bh,_,ac⟩
  · exact ⟨_,[],jb,⟨by simp,⟨none,0,rfl,by simp,by simp [maxLen]⟩,fun c=>absurd rfl c,fun b r k aG ac=>by simp at ac⟩,by simp⟩
  · have alC:t=cap:=by simpa using bh
    subst alC
    rw [fL] at ac
    have G:∀ b,b < len→∃ i:List Value,i.length=H∧(∀ k aG,i[k]?=some aG→aJ.cell? (l.add (b*H+k))=some aG)∧dh cB o aJ r i:=fun b rT=>by
      obtain ⟨i,aS,Q⟩:=ac b E
      obtain ⟨_,S,ft⟩:=World.cells?_some aS
      refine ⟨i,S,fun k aG ag=>?_,s,_,Q⟩
      have pb:=(dD.1 ag).1
      have:=ft k E
      rw [←Go.Deep.add_add,this,ag]
    let fO:Nat→List Value:=fun b=>if c:b < len then Classical.choose (G b c) else []
    have Ct:∀ b,b < len→(fO b).length=H∧(∀ k aG,(fO b)[k]?=some aG→aJ.cell? (l.add (b*H+k))=some aG)∧dh cB o aJ r (fO b):=fun b rT=>by
      simp only [fO,rT,dif_pos];exact Classical.choose_spec (G b rT)
    have VA:0 < len→l=⟨jT (.slice (some l) len t),kN (.slice (some l) len t),none⟩:=fun bB=>by
      obtain ⟨G,J,_⟩:=Ct 0 bB
      have aA:=J 0 _ (et E)
      simp only [aax,DD,Addr.add,if_true] at aA
      obtain ⟨p,v,fz⟩:=l
      cases fz with
      | none=>rfl
      | some A =>
        exfalso
        simp only [World.cell?] at aA
        split at aA<;>simp at aA
    have gI:((List.range len).map fO).length=len:=by simp
    refine ⟨_,(List.range len).map fO,jb,⟨?_,⟨_,t,by rw [gI],by rw [gI];exact alu,pP⟩,?_,?_⟩,?_⟩
    · intro e Q
      obtain ⟨b,ys,rfl⟩:=bx.1 Q
      exact (Ct b (kd.1 ys)).1
    · intro ea
      have bB:0 < len:=by
        rcases Nat.eq_zero_or_pos len with c|c
        · subst c;exact absurd rfl ea
        · exact c
      exact ⟨t,by rw [gI];exact dz (fun aI=>Value.slice (some aI) len t) (VA bB)⟩
    · intro b mb k aG ac ag
      rw [hy] at ac
      obtain ⟨r0,ys,q0⟩:=Bz.1 ac
      obtain ⟨ca,V1⟩:=dD.1 ys
      simp at ca V1
      subst V1
      subst q0
      have aZ:=(Ct b ca).2.1 k aG ag
      rw [VA E,zN] at aZ
      rw [QR,aZ]
    · intro p av
      obtain ⟨b,ys,rfl⟩:=bx.1 av
      exact (Ct b (kd.1 ys)).2.2
end
def Jf{bi mU:Type}{z:bi→mU}{cz:bi→Prop}:∀ {f:List mU},(∀ p∈f,∃ l,p=z l∧cz l)→∃ hY:List bi,f=hY.map z∧∀ l∈hY,cz l
  | [],_=>⟨[],rfl,by simp⟩
  | p :: f,c=>by
    obtain ⟨l,rfl,V⟩:=c p oU
    obtain ⟨hY,rfl,S⟩:=Jf (f:=f) fun p av=>c p (by simp [av])
    exact ⟨l :: hY,rfl,by simpa using ⟨V,S⟩⟩
section
variable {a:Type} {cB:TypeId×Value→a} {o:Program} {aJ:World} {u r:TypeId} {ay:List Value}
def agm{i:Array Value}{f:List Value}(c:(Value.agg i).cells.toList=f):Value.agg i=.agg f.toArray:=by
  subst c;rfl
def arn{m aG:Value}(ba:∀ i,m≠.agg i)(c:m.cells.toList=[aG]):m=aG:=by
  cases m<;>first|exact absurd rfl (ba _)|simpa [Value.cells] using c
end
def ap0{m:Value}(c:∃ l len cap,m=.slice l len cap):∀ i,m≠.agg i:=by
  rintro i rfl
  obtain ⟨_,_,_,c⟩:=c
  cases c
end Go.LK
namespace Go.LK
open Go Go.RowKit
section
variable {i:cM} {D:bW} {C:List aB} {aX Y:TypeId} {e:Operand} {f:List UInt8} {L n:Nat}
end
end Go.LK
namespace Go.LK
open Go Go.RowKit
def j'(X:Value)(H l p:Nat):Value:=match X with
  | .slice ar _ cap=>.slice (if cap=l then ar else ar.map (·.add (l*H))) (p-l) (cap-l)
  | m=>m
def oV.cut{j:World}{X:Value}{H:Nat}{bZ:List (List Value)}(c:oV j X H bZ){l p:Nat}(lw:l≤p)(av:p≤bZ.length):oV j (j' X H l p) H ((bZ.take p).drop l):=by
  obtain ⟨ar,cap,kn,G,J⟩:=c.zY
  have gI:((bZ.take p).drop l).length=p-l:=by simp;omega
  have ft:∀ b r,((bZ.take p).drop l)[b]?=some r→l+b < p∧bZ[l+b]?=some r:=fun b r ac=>by
    have ca:=(dD.1 ac).1
    rw [gI] at ca
    rw [xx,k6,ee E] at ac
    exact ⟨by omega,ac⟩
  have ea:(bZ.take p).drop l≠[]→∃ u9,j' X H l p=.slice (some ⟨jT X,kN X+l*H,none⟩) (p-l) u9:=fun aw=>by
    have ca:l < p:=Q9 fun aS=>aw (By E)
    obtain ⟨u9,ba⟩:=c.wB (fun aS=>by subst aS;simp at av;omega)
    have pO:u9=cap:=by rw [kn] at ba;injection ba with _ _ aA;exact aA.symm
    have bI:ar=some ⟨jT X,kN X,none⟩:=by
      have:=kn.symm.trans ba
      injection this with aA
    refine ⟨cap-l,?_⟩
    have kG:j' X H l p=.slice (if cap=l then ar else ar.map (·.add (l*H))) (p-l) (cap-l):=by rw [kn];rfl
    rw [kG,be E,bI]
    simp [zN]
  refine ⟨fun e Q=>c.len e (ze (K3 Q)),?_,fun aw=>?_,fun b r k aG ac ag=>?_⟩
  · rw [gI]
    subst kn
    exact ⟨_,cap-l,rfl,by omega,by omega⟩
  · obtain ⟨u9,ba⟩:=ea aw
    exact ⟨u9,by rw [gI,ba];rfl⟩
  · obtain ⟨u9,ba⟩:=ea (fun aS=>by rw [aS] at ac;simp at ac)
    obtain ⟨aA,aZ⟩:=ft b r ac
    have:=c.cells (l+b) r k aG aZ ag
    rw [ba]
    show j.cell? ⟨jT X,kN X+l*H+b*H+k,none⟩=some aG
    rw [show kN X+l*H+b*H+k=kN X+(l+b)*H+k from by rw [Bv];omega]
    exact this
def ZT{j:World}{X:Value}{H:Nat}{bZ:List (List Value)}(c:oV j X H bZ){l p:Nat}(lw:l≤p)(av:p≤bZ.length):∀ d∈(bF (j' X H l p) H ((bZ.take p).drop l)).dT,d∈(bF X H bZ).dT:=by
  intro d R
  simp only [bF] at R ⊢
  split at R
  · cases R
  · rename_i ea
    have CN:(bZ.take p).drop l≠[]:=fun aS=>ea (by rw [aS];rfl)
    have ie:=c.cut lw av
    obtain ⟨u9,ba⟩:=ie.wB CN
    have Ap:bZ≠[]:=fun aS=>CN (by rw [aS];simp)
    have mh:bZ.flatten≠[]:=fun aS=>ea (by
      rw [K1] at aS ⊢
      exact fun e Q=>aS e (ze (K3 Q)))
    rw [be mh]
    obtain ⟨aye,kn⟩:=c.wB Ap
    have gI:((bZ.take p).drop l).length=p-l:=by simp;omega
    have ca:l < p:=Q9 fun aS=>CN (By E)
    have:jT (j' X H l p)=jT X:=by
      obtain ⟨ar,cap,Vl,G,_⟩:=c.zY
      rw [Vl] at kn
      injection kn with aA
      rw [Vl,aA]
      have N4:¬cap=l:=by omega
      simp [j',jT,N4,zN]
    rw [this] at R
    exact R
section
variable {i:cM} {d:List eH} {D:bW} {C:List aB} {ak:Array Oper} {bv:List Oper} {aX:TypeId} {m X:Value} {e F aI:Operand} {Y u:TypeId} {H:Nat}
variable {bi:Type} {z:bi→List Value} {f:List bi}
def ax.cut{l p:Nat}(W:ax i C X H (f.map z))(lw:l≤p)(av:p≤f.length):ax i C (j' X H l p) H (((f.take p).drop l).map z):=fun ok j ci=>by
  have:=(W ok j ci).cut lw G1
  rwa [←KU,←Q3] at this
def ax.head{p:Nat}(W:ax i C X H (f.map z))(av:p≤f.length):ax i C (j' X H 0 p) H ((f.take p).map z):=ax.cut (l:=0) W (GG _) av
def ax.tail{l p:Nat}(W:ax i C X H (f.map z))(V:l≤f.length)(av:p=f.length):ax i C (j' X H l p) H ((f.drop l).map z):=by
  subst av
  have:=ax.cut (p:=f.length) W V (oQ _)
  rwa [ir (oQ _)] at this
def YV{o:Program}{j:World}{X:Value}{bZ:List (List Value)}(cF:∀ j,(underlying Y).run o j=.ok (.slice u) j)(ce:∀ j,(sizeOf u).run o j=.ok H j)(ie:oV j X H bZ){gw ac:Option Value}{l p:Nat}
    (CK:(gw=none∧l=0)∨gw=some (.b l)) (akJ:(ac=none∧p=bZ.length)∨ac=some (.b p)) (lw:l≤p) (av:p≤bZ.length):(Instr.sliceAt Y X gw ac none).run o j=.ok (j' X H l p) j:=by
  obtain ⟨ar,cap,kn,G,J⟩:=ie.zY
  subst kn
  have aki:p≤cap:=by omega
  rcases CK with ⟨rfl,rfl⟩|rfl<;>rcases akJ with ⟨rfl,rfl⟩|rfl <;>
    simp [Instr.sliceAt,Instr.slice,Instr.sliceBounds,Instr.sliceBound,asIntOf,cF,ce,j',lw,aki,av,G]
def aV.tT{k:Int}(cF:∀ j,(underlying Y).run i.o j=.ok (.slice u) j)(ce:∀ j,(sizeOf u).run i.o j=.ok H j)(Q:aT D e=some X)(W:ax i C X H (f.map z))(az:aT D aI=some (.b k))(bB:0≤k)(G:k≤f.length) :
    aV i D C (.slice Y e none (some aI) none) aX (j' X H 0 k.toNat):=fun ok l j V ci _ _ _ _=>by
  have J:((k.toNat:Nat):Int)=k:=Int.toNat_of_nonneg bB
  have:=YV (o:=i.o) (j:=j) (gw:=none) (ac:=some (.b k)) cF ce (W ok j ci) (.inl ⟨rfl,rfl⟩) (.inr (by rw [J])) (GG _) (by rw [fc];omega)
  simp [execOp,V.aT Q,V.aT az,this]
def aV.tU{k:Int}(cF:∀ j,(underlying Y).run i.o j=.ok (.slice u) j)(ce:∀ j,(sizeOf u).run i.o j=.ok H j)(Q:aT D e=some X)(W:ax i C X H (f.map z))(az:aT D F=some (.b k))(bB:0≤k)(G:k≤f.length) :
    aV i D C (.slice Y e (some F) none none) aX (j' X H k.toNat f.length):=fun ok l j V ci _ _ _ _=>by
  have J:((k.toNat:Nat):Int)=k:=Int.toNat_of_nonneg bB
  have:=YV (o:=i.o) (j:=j) (gw:=some (.b k)) (ac:=none) (p:=f.length) cF ce (W ok j ci) (.inr (by rw [J])) (.inl ⟨rfl,by rw [fc]⟩) E (by rw [fc];omega)
  simp [execOp,V.aT Q,V.aT az,this]
def aub{j:World}{X:Value}{bZ:List (List Value)}{p:Nat}(c:(row X u H bZ).holds j)(av:p≤bZ.length):(row (j' X H 0 p) u H (bZ.take p)).holds j:=by
  obtain ⟨bw,S⟩:=c
  have ca:∀ e∈bZ.take p,e.length=H:=fun e Q=>S e (ze Q)
  have gI:(bZ.take p).length=p:=by rw [ib];omega
  refine ⟨⟨r3 ca,?_⟩,ca⟩
  rcases bw.2 with ⟨rfl,aw⟩|⟨L,cap,fF,rfl,E6,bq,pT,pP,jb,pg⟩
  · refine .inl ⟨?_,by rw [gI];omega⟩
    have:p=0:=by omega
    subst this
    rfl
  · refine .inr ⟨L,cap,fF,?_,E6,bq,by omega,pP,jb,?_⟩
    · rw [gI]
      by_cases aS:cap=0
      · simp [j',aS]
      · simp [j',aS,Addr.add]
    · rw [gI]
      have G:bZ.flatten.take (p*H)=(bZ.take p).flatten:=by
        conv=>lhs;rw [←kQ p bZ,List.flatten_append]
        rw [List.take_append_of_le_length abi,ir abi]
      rw [←G,←pg,GK,DI (QZ H av)]
def aq.aky(b:Nat){k:Int}(cF:∀ j,(underlying Y).run i.o j=.ok (.slice u) j)(ce:∀ j,(sizeOf u).run i.o j=.ok H j)(Q:aT D e=some X)(ac:C[b]?=some (row X u H (f.map z)))(az:aT D aI=some (.b k))(bB:0≤k)(G:k≤f.length) :
    aq i D C (.slice Y e none (some aI) none) aX fun m B=>m=j' X H 0 k.toNat∧B=C.set b (row (j' X H 0 k.toNat) u H ((f.take k.toNat).map z)):=fun ok l j V ci y pos cT rJ bN cz dj=>by
  have d_:=ci.cC _ (eF ac)
  refine lJ (m:=j' X H 0 k.toNat) (bQ:=j) (aV.tT cF ce Q (ax.row b ac) az bB G ok l j V ci _ _ _ _) (dj _ _ _ ⟨rfl,rfl⟩ (ci.set ac (Frame.refl j _) ?_ (fun d R=>.inl ?_)))
  · have:=aub (p:=k.toNat) d_ (by rw [fc];omega)
    rwa [←KU] at this
  · rcases d_.1.2 with ⟨rfl,_⟩|⟨L,cap,fF,rfl,_⟩
    · simp [row,j',Value.ownBlock] at R
    · by_cases aS:cap=0<;>simpa [row,j',Value.ownBlock,aS,Addr.add] using R
def aig{X:Value}{l p:Nat}(lw:l≤p)(av:p≤f.length):∀ j,(bF X H (f.map z)).holds j→(bF (j' X H l p) H (((f.take p).drop l).map z)).holds j∧∀ d∈(bF (j' X H l p) H (((f.take p).drop l).map z)).dT,d∈(bF X H (f.map z)).dT:=fun j c=>by
  have G:=oV.cut (H:=H) c lw G1
  have J:=ZT (H:=H) c lw G1
  rw [←KU,←Q3] at G J
  exact ⟨G,J⟩
def akz{X:Value}{p:Nat}(av:p≤f.length):∀ j,(bF X H (f.map z)).holds j→(bF (j' X H 0 p) H ((f.take p).map z)).holds j∧∀ d∈(bF (j' X H 0 p) H ((f.take p).map z)).dT,d∈(bF X H (f.map z)).dT:=aig (l:=0) (GG _) av
def eI.at8{dW en:List aB}{ar b2:aB}(b:Nat)(ac:i.dO[b]?=some b2)(sK:∀ j,b2.holds j→ar.holds j∧∀ d∈ar.dT,d∈b2.dT)(bt:List Nat)(dv:LK.dB C bt=dW)(c:eI i C dW en):eI i C dW (ar :: en):=fun ok j W cO fL=>by
  rcases fb.1 fL with rfl|fL
  · have G:=eI.b0 (en:=[]) b ac bt dv eI.nil ok j W b2 oU
    exact ⟨(sK j G.1).1,fun d R=>G.2 d ((sK j G.1).2 d R)⟩
  · exact c ok j W cO fL
end
end Go.LK
namespace Go.LK
open Go Go.RowKit
section
variable {i:cM} {d:List eH} {D:bW} {C:List aB} {aX:TypeId} {m:Value} {e F:Operand} {Y:TypeId}
def U.oz{lD:List (Nat×Operand)}{s r H:Nat}(ae:List (Nat×Value))(ay:List Value){eU:Value}(cF:∀ j,(underlying Y).run i.o j=.ok (.array s r) j)(ce:∀ j,(zeroValue Y).run i.o j=.ok eU j)(W:∀ j,(sizeOf r).run i.o j=.ok H j)
    (ad:lD.map (fun n=>(n.1,aT D n.2))=ae.map (fun n=>(n.1,some n.2))) (bc:Instr.fill (fun b=>some (b*H,H)) eU.cells ae=some ay.toArray):U i D (.build Y lD.toArray) aX (.agg ay.toArray):=fun l j V _ _ _ _=>by
  have Fs:lD.map (fun n=>(n.1,l.eval n.2))=ae:=by
    exact R3
  simp only [execOp,Q']
  simp [Instr.build,cF,ce,Fs,W,bc]
def U.AP{s r H:Nat}{fE:IntKind}{t:Int}{ay:List Value}(ae:List Value)(cF:∀ j,(underlying Y).run i.o j=.ok (.array s r) j)(W:∀ j,(sizeOf r).run i.o j=.ok H j)(qp:∀ j,(isAgg r).run i.o j=.ok true j)
    (Q:aT D e=some (.agg ay.toArray)) (az:aT D F=some (.int fE t)) (bB:0≤t) (G:t < s) (ba:(ay.drop (t.toNat*H)).take H=ae):U i D (.index Y e F) aX (.agg ae.toArray):=fun l j V _ _ _ _=>by
  subst ba
  simp [execOp,V.aT Q,V.aT az,Instr.index,asIntOf,cF,W,bB,G,part,qp]
def U.I6{s r H:Nat}{fE:IntKind}{t:Int}{ay:List Value}(cF:∀ j,(underlying Y).run i.o j=.ok (.array s r) j)(W:∀ j,(sizeOf r).run i.o j=.ok H j)(qp:∀ j,(isAgg r).run i.o j=.ok false j)
    (Q:aT D e=some (.agg ay.toArray)) (az:aT D F=some (.int fE t)) (bB:0≤t) (G:t < s) (ba:ay[t.toNat*H]?=some m):U i D (.index Y e F) aX m:=fun l j V _ _ _ _=>by
  simp [execOp,V.aT Q,V.aT az,Instr.index,asIntOf,cF,W,bB,G,part,qp,ba]
def tj(s:Int):Value:=.b s
def vO(f:List UInt8):Value:=uH f
end
end Go.LK
namespace Go.LK
open Go Go.RowKit Go.ChangeShapes Go.WideShapes Go.ChangeAt
section
variable {a:Type} {cB:TypeId×Value→a} {o:Program} {aJ:World}
def ahA{j:World}{B':Nat}{fz:Nat→Bool}{held:Bool}{kU:Nat}{u r:TypeId}{s:Nat}{ay:List Value}{iM:List (List UInt8)}{n:List MemPlace}
    (bA:o.underlying u=some (.array s r)) (aC:o.underlying r=some .string) (akj:o.cellsOf r=1) (akm:o.cellsOf u=s)
    (c:DataW.trod cB o j B' fz held kU u ay=some ((DataW.agg (iM.map fun aI=>DataW.lit (.string aI))),n)):ay=iM.map vO:=by
  cases kU with
  | zero=>simp [DataW.trod] at c
  | succ kU =>
    simp only [DataW.trod,bA,akj,akm,QQ] at c
    split at c
    · rename_i S
      obtain ⟨dq,bh,Q⟩:=Bz.1 c
      have ly:dq.map (·.1)=iM.map fun aI=>(DataW.lit (.string aI):DataW a):=by
        have:=dz Prod.fst Q
        simpa using this
      have aAJ:dq.length=s:=by simpa using Lib.mapM_length bh
      have aAM:iM.length=s:=by
        have:=dz List.length ly
        simp at this
        omega
      apply xz
      intro b
      by_cases ac:b < s
      · obtain ⟨p,av,bc⟩:=Lib.mapM_at bh b b (by simp [ac])
        obtain ⟨aI,aS,rfl,_⟩:=DataW.trod_string aC bc
        have G:ay[b]?=some (.string aI):=by
          have:=dz (·[0]?) aS
          simpa [k6,xx] using this
        have J:(dq.map (·.1))[b]?=some (DataW.lit (.string aI.data.toList):DataW a):=by simp [av]
        rw [ly] at J
        simp only [hy,Bz,DataW.lit.injEq,Lit.string.injEq] at J
        obtain ⟨aBp,ane,aA⟩:=J
        rw [G,hy,ane,aA]
        exact dz some (avP aI)
      · rw [vU E,vU v1]
    · cases c
end
end Go.LK
namespace Go.LK
open Go Go.RowKit
section
variable {i:cM} {d:List eH} {D:bW} {C:List aB} {ak:Array Oper} {bv:List Oper} {aX:TypeId} {m X:Value} {e F aI:Operand} {Y u aj b5:TypeId}
def U.Ps{r:TypeId}(cF:i.o.underlying Y=some (.pointer r))(Q:aT D e=some (.pointer none)):U i D (.binOp .eql Y e (.const (.pointer none)) Y) aX (.bool true):=fun l j c _ _ _ _=>by
  have aA:∀ y,(Op.equalIn (y+1) Y (.pointer none) (.pointer none)).run i.o j=.ok true j:=fun y=>by simp [Op.equalIn,jf cF]
  have aZ:(binOp .eql Y (.pointer none) (.pointer none)).run i.o j=.ok (.bool true) j:=by
    exact DZ
  have bT:eqGuard .eql Y e (.const (.pointer none)) (.pointer none) (.pointer none)=pure ():=by cases e<;>rfl
  exact LV
def U.jA{r:TypeId}{mY:Addr}(cF:i.o.underlying Y=some (.pointer r))(Q:aT D e=some (.pointer (some mY))):U i D (.binOp .eql Y e (.const (.pointer none)) Y) aX (.bool false):=fun l j c _ _ _ _=>by
  have aA:∀ y,(Op.equalIn (y+1) Y (.pointer (some mY)) (.pointer none)).run i.o j=.ok false j:=fun y=>by simp [Op.equalIn,jf cF]
  have aZ:(binOp .eql Y (.pointer (some mY)) (.pointer none)).run i.o j=.ok (.bool false) j:=by
    exact DZ
  have bT:eqGuard .eql Y e (.const (.pointer none)) (.pointer (some mY)) (.pointer none)=pure ():=by cases e<;>rfl
  exact LV
end
end Go.LK
namespace Go.LK
open Go Go.RowKit
def wv(ak:Array Oper):Nat→Array Bool→List Nat→Prop
  | 0,_,iP=>iP=[]
  | _+1,cv,[]=>Region.ready .any ak cv=[]
  | t+1,cv,b :: iP=>b∈Region.ready .any ak cv∧wv ak t (cv.setIfInBounds b true) iP
def ZS(ak:Array Oper):∀ (kU u:Nat) (cv:Array Bool),wv ak kU cv (Region.linearise.go .any ak kU u cv [])
  | 0,u,cv=>by simp [Region.linearise.go,wv]
  | kU+1,u,cv=>by
    simp only [Region.linearise.go]
    change wv ak (kU+1) cv (match (Region.ready .any ak cv)[u%(Region.ready .any ak cv).length]? with
      | some b=>Region.linearise.go .any ak kU (u / (Region.ready .any ak cv).length) (cv.setIfInBounds b true) [b]
      | none=>[].reverse)
    cases ac:(Region.ready .any ak cv)[u%(Region.ready .any ak cv).length]? with
    | none =>
      cases cs:Region.ready .any ak cv with
      | nil=>simpa [wv] using cs
      | cons e dq =>
        rw [cs] at ac
        have ca:u%(e :: dq).length < (e :: dq).length:=Nat.mod_lt _ oU
        simp at ac
        simp at ca
        omega
    | some b =>
      simp only []
      rw [linearise_go_acc,List.reverse_singleton,aay]
      exact ⟨eF ac,ZS ak kU _ _⟩
def Ts{o:Program}{ak:Array Oper}{cz:Exit→Act→World→Prop}:∀ (kU:Nat) (cv:Array Bool) (iP:List Nat) (l:Act) (j:World),wpAny o .any ak cz kU cv l j→wv ak kU cv iP→wpOps o ak cz iP l j
  | 0,cv,iP,l,j,c,ba=>by
    cases ba
    simpa [wpOps] using c.2
  | kU+1,cv,[],l,j,c,ba=>by simpa [wpOps] using c.1 ba
  | kU+1,cv,b :: iP,l,j,c,ba=>by
    rw [wpOps_cons]
    exact wpOp_mono (fun l j J=>Ts kU _ iP l j J ba.2) (c.2 b ba.1)
def Bm(k:Nat)(v:Oper):Oper:={ v with after:=v.after.push ⟨k,.data⟩ }
def gV:Nat→Nat→List Oper→List Oper
  | _,_,[]=>[]
  | 0,k,v :: f=>Bm k v :: f
  | b+1,k,v :: f=>v :: gV b k f
def Ia:∀ (b k:Nat) (f:List Oper) (d:Nat),(gV b k f)[d]?=(f[d]?).map fun v=>if d=b then Bm k v else v
  | _,_,[],d=>by simp [gV]
  | 0,k,v :: f,0=>by simp [gV]
  | 0,k,v :: f,d+1=>by simp [gV]
  | b+1,k,v :: f,0=>by simp [gV]
  | b+1,k,v :: f,d+1=>by
    rw [gV,Dy,Dy,Ia b k f d]
    simp
def Nb(b k:Nat)(f:List Oper):(gV b k f).length=f.length:=by
  induction f generalizing b with
  | nil=>cases b<;>rfl
  | cons v f b6=>cases b<;>simp [gV,b6]
def Uv(k:Nat)(v:Oper)(aT:Operand→Value):execOp aT (Bm k v)=execOp aT v:=by cases v;rfl
def axf{o:Program}{k:Nat}{v:Oper}{l:Act}{j:World}{bN:Act→World→Prop}{cz:Exit→Act→World→Prop}:(Bm k v).wp o l j bN cz↔v.wp o l j bN cz:=by
  unfold Oper.wp
  rw [Uv]
  cases v
  exact Iff.rfl
def agA{o:Program}{k:Nat}{v:Oper}{l:Act}{j:World}:(Bm k v).asks o l j↔v.asks o l j:=by
  unfold Oper.asks
  rw [Uv]
def axm(b k:Nat)(f:List Oper)(tmps:Array Value)(d:Nat):yielded (gV b k f).toArray tmps d=yielded f.toArray tmps d:=by
  unfold yielded
  have:((gV b k f).toArray[d]?).bind (·.dst)=(f.toArray[d]?).bind (·.dst):=by
    simp only [Bs,Ia]
    cases f[d]? with
    | none=>rfl
    | some v=>simp only [Bx,GV];split<;>rfl
  rw [this]
def QF{o:Program}{cz:Exit→Act→World→Prop}(b k:Nat)(f:List Oper):∀ (iP:List Nat) (l:Act) (j:World),wpOps o (gV b k f).toArray cz iP l j→wpOps o f.toArray cz iP l j
  | [],l,j,c=>by simpa [wpOps] using c
  | d :: iP,l,j,c=>by
    rw [wpOps_cons] at c ⊢
    have G:wpOp o (gV b k f).toArray cz d (wpOps o f.toArray cz iP) l j:=wpOp_mono (fun l j c=>QF b k f iP l j c) c
    unfold wpOp at G ⊢
    simp only [Bs,Ia] at G ⊢
    cases bw:f[d]? with
    | none=>simpa [bw] using G
    | some v =>
      simp only [bw,Bx] at G ⊢
      have az:yielded (gV b k f).toArray l.tmps=yielded f.toArray l.tmps:=funext (axm b k f l.tmps)
      by_cases R:d=b
      · rw [ee R] at G
        rw [az] at G
        have bU:Region.wanted (Bm k v) (yielded f.toArray l.tmps)=Region.wanted v (yielded f.toArray l.tmps):=rfl
        rw [bU,axf,agA] at G
        exact G
      · rw [be R,az] at G
        exact G
def Yt{b k:Nat}{f:List Oper}{cv:Array Bool}{d:Nat}:d∈Region.ready .any (gV b k f).toArray cv↔d∈Region.ready .any f.toArray cv∧(d=b→cv.getD k false=true):=by
  unfold Region.ready
  simp only [pt,kd,GP,Nb,Bs,Ia,h6]
  by_cases R:d=b
  · subst R
    cases bw:f[d]? with
    | none=>simp
    | some v =>
      simp only [Bx,if_true,QT,Bm,Array.all_push,h6,true_implies]
      have av:(!Region.binds .any (⟨k,.data⟩:Edge))=false:=rfl
      simp only [av,Q5]
      constructor
      · rintro ⟨G,J,aA,aZ⟩;exact ⟨⟨G,J,aA⟩,aZ⟩
      · rintro ⟨⟨G,J,aA⟩,aZ⟩;exact ⟨G,J,aA,aZ⟩
  · cases bw:f[d]? with
    | none=>simp [R]
    | some v=>simp [R]
def Qy{b k:Nat}{f:List Oper}:∀ (t:Nat) (cv:Array Bool) (iP:List Nat),wv f.toArray t cv iP→(∀ n A,iP=n++b :: A→k∈n∨cv.getD k false=true)→wv (gV b k f).toArray t cv iP
  | 0,cv,iP,c,_=>c
  | t+1,cv,[],c,_=>by
    have c:Region.ready .any f.toArray cv=[]:=c
    change Region.ready .any (gV b k f).toArray cv=[]
    refine QM.2 fun d R=>?_
    have:=(Yt.1 R).1
    rw [c] at this
    cases this
  | t+1,cv,d :: iP,c,bq=>by
    refine ⟨Yt.2 ⟨c.1,fun R=>?_⟩,Qy t _ iP c.2 fun n A AE=>?_⟩
    · rcases bq [] iP (by rw [R];rfl) with G|G
      · cases G
      · exact G
    · rcases bq (d :: n) A (by rw [AE];rfl) with G|G
      · rcases fb.1 G with rfl|G
        · refine .inr ?_
          have ca:k < cv.size:=by
            have:=c.1
            unfold Region.ready at this
            simp only [pt,h6,uN] at this
            by_cases ag:k < cv.size
            · exact ag
            · have J:=this.2.1
              rw [l6,BA E] at J
              cases J
          rw [l6,Array.getElem?_setIfInBounds_self_of_lt ca];rfl
        · exact .inl G
      · refine .inr ?_
        rw [l6,Array.getElem?_setIfInBounds]
        split
        · split
          · rfl
          · rename_i ca
            rw [l6,BA E] at G
            cases G
        · rw [←l6];exact G
def ar(i:cM)(f:List Oper)(d:List eH)(D:bW)(C:List aB):Prop:=i.bC→∀ l j,hH i.s l D→cl i.an i.bL C j→∀ iP,wv f.toArray f.length (Array.replicate f.length false) iP→wpOps i.o f.toArray (i.cz d) iP l j
section
variable {i:cM} {d:List eH} {D:bW} {bN C:List aB} {f:List Oper}
def K.kD{id:Nat}(bh:i.o.follows .mixedOrders=true)(c:ar i f d D C):K i (.code (.region id f.toArray true) :: d) D C:=fun ok l j V W =>
  wp_region_draw fun u=>by
    simp only [Region.schedule,bh,Bool.true_or,if_true]
    have:=c ok l _ V W.zS (Region.linearise .any f.toArray u) (by
      have:=ZS f.toArray f.toArray.size u (Array.replicate f.toArray.size false)
      simpa [Region.linearise] using this)
    exact this
def ar.gV(b k:Nat)(mi:Nat.beq b k=false)(G:ar i (LK.gV b k f) d D C)(J:ar i (LK.gV k b f) d D C):ar i f d D C:=fun ok l j V W iP ba=>by
  have mi:b≠k:=fun c=>by subst c;simp at mi
  by_cases bq:∀ n A,iP=n++b :: A→k∈n∨(Array.replicate f.length false).getD k false=true
  · refine QF b k f iP l j (G ok l j V W iP ?_)
    rw [Nb]
    exact Qy _ _ iP ba bq
  · refine QF k b f iP l j (J ok l j V W iP ?_)
    rw [Nb]
    refine Qy _ _ iP ba fun ks ig AD=>?_
    simp only [Classical.not_forall,not_or] at bq
    obtain ⟨n,A,ad,aw,_⟩:=bq
    refine .inl ?_
    rw [ad] at AD
    rcases Ld.1 AD with ⟨Z,rfl,aA⟩|⟨Z,rfl,aA⟩
    · cases Z with
      | nil=>simp at aA;exact absurd aA.1 mi
      | cons e Z =>
        simp only [oo,oR] at aA
        rw [←aA.1];simp
    · cases Z with
      | nil=>simp at aA;exact absurd aA.1.symm mi
      | cons e Z =>
        simp only [oo,oR] at aA
        exact absurd (by rw [←aA.1];simp) aw
def ar.apE(fo:List (Nat×Bool))(bt:List Nat)(bN:List aB)(dP:w4 f.toArray fo=true)(aw:bt.Nodup)(dv:LK.dB C bt=bN)
    (c:aL i f.toArray (fun du B=>K i d du B) [] fo D bN C):ar i f d D C:=fun ok l j V W iP ba=>by
  have:=Xn (ok:=ok) dP (fun _ W=>dv ▸ W.dB aw) c V W
  refine Ts _ _ iP l j this ?_
  simpa using ba
end
end Go.LK
namespace Go.LK
open Go Go.RowKit
def c1(eu:List aB):aB where
  dT:=ei eu
  holds j:=(∀ ar∈eu,ar.holds j)∧eu.Pairwise uS
  lt j c d R:=by
    obtain ⟨ar,bI,R⟩:=jO.1 R
    exact ar.lt j (c.1 ar bI) d R
  oM j bQ c d_:=⟨fun ar bI=>ar.oM j bQ (fun d R=>c d (jO.2 ⟨ar,bI,R⟩)) (d_.1 ar bI),d_.2⟩
def hZ(eu:List aB):aB where
  dT:=ei eu
  holds j:=∀ ar∈eu,ar.holds j
  lt j c d R:=by
    obtain ⟨ar,bI,R⟩:=jO.1 R
    exact ar.lt j (c ar bI) d R
  oM j bQ c d_:=fun ar bI=>ar.oM j bQ (fun d R=>c d (jO.2 ⟨ar,bI,R⟩)) (d_ ar bI)
def Ux{eu ah:List aB}:ei (c1 eu :: ah)=ei (eu++ah):=by rw [ya,Nh];rfl
def Ue{eu:List aB}{b2:aB}:uS (c1 eu) b2↔∀ ar∈eu,uS ar b2:=by
  constructor
  · intro c ar bI d R hB
    exact c d (jO.2 ⟨ar,bI,R⟩) hB
  · intro c d R hB
    obtain ⟨ar,bI,R⟩:=jO.1 R
    exact c ar bI d R hB
def cl.oA{an j:World}{bL:List Nat}{eu ah:List aB}:cl an bL (c1 eu :: ah) j↔cl an bL (eu++ah) j:=by
  constructor
  · intro c
    have G:=c.cC (c1 eu) oU
    have J:=l7.1 c.gX
    refine ⟨c.aE,fun ar bI=>?_,p7.2 ⟨G.2,J.2,fun ar bI b2 dP=>Ue.1 (J.1 b2 dP) ar bI⟩,fun d R=>c.mu d (by rw [Ux];exact R)⟩
    rcases iE.1 bI with bI|bI
    · exact G.1 ar bI
    · exact c.cC ar xC
  · intro c
    have J:=p7.1 c.gX
    refine ⟨c.aE,fun ar bI=>?_,l7.2 ⟨fun b2 dP=>Ue.2 fun ar bI=>J.2.2 ar bI b2 dP,J.2.1⟩,fun d R=>c.mu d (by rw [Ux] at R;exact R)⟩
    rcases fb.1 bI with rfl|bI
    · exact ⟨fun b2 dP=>c.cC b2 (by simp [dP]),J.1⟩
    · exact c.cC ar xC
def a'(C B:List aB):Prop:=∀ an bL j,cl an bL C j→cl an bL B j
section
variable {C B ah eu qM p':List aB} {ar b2:aB}
def a'.refl(C:List aB):a' C C:=fun _ _ _ c=>c
def a'.trans{h8 zy SF:List aB}(c:a' h8 zy)(gH:a' zy SF):a' h8 SF:=fun an bL j W=>gH an bL j (c an bL j W)
def a'.pk(c:C.Perm B):a' C B:=fun _ _ _ W=>W.pk c
def a'.dB(bt:List Nat)(aw:bt.Nodup)(c:LK.dB C bt=B):a' C B:=fun _ _ _ W=>c ▸ W.dB aw
def a'.new:a' ah (c1 [] :: ah):=fun _ _ _ W=>cl.oA.2 W
def a'.drop:a' (c1 [] :: ah) ah:=fun _ _ _ W=>cl.oA.1 W
def a'.I':a' (b2 :: c1 eu :: ah) (c1 (eu++[b2]) :: ah):=fun an bL j W=>by
  have G:cl an bL (c1 eu :: b2 :: ah) j:=W.pk (List.Perm.swap _ _ _)
  have J:=cl.oA.1 G
  refine cl.oA.2 ?_
  rwa [ia]
def a'.kL(c:eu=qM++b2 :: p'):a' (c1 eu :: ah) (b2 :: c1 (qM++p') :: ah):=fun an bL j W=>by
  subst c
  have J:=cl.oA.1 W
  have aA:cl an bL (b2 :: (qM++p'++ah)) j:=J.pk (by
    rw [ia,ia,oo]
    exact tq)
  have aZ:=cl.oA (eu:=[b2]) (ah:=qM++p'++ah) |>.2 aA
  have bT:cl an bL (qM++p'++[b2]++ah) j:=aA.pk (by
    rw [ia (qM++p')]
    exact (tq (a:=b2) (l₁:=qM++p') (l₂:=ah)).symm)
  have c7:cl an bL (c1 (qM++p') :: b2 :: ah) j:=cl.oA.2 (by simpa using bT)
  exact c7.pk (List.Perm.swap _ _ _)
def a'.o3(c:eu=qM++b2 :: p'):a' (b2 :: c1 (qM++p') :: ah) (c1 eu :: ah):=fun an bL j W=>by
  subst c
  have G:=a'.I' an bL j W
  have J:=cl.oA.1 G
  refine cl.oA.2 (J.pk ?_)
  refine KS ah ?_
  rw [ia]
  exact (tq (a:=b2) (l₁:=qM) (l₂:=p')).symm.symm.trans (by exact uJ _) |> fun _=>by
    have:(p'++[b2]).Perm (b2 :: p'):=Dv
    exact Bt qM this
def a'.cons(c:a' C B):a' (ar :: C) (ar :: B):=fun an bL j W=>by
  have bI:cl an bL C j:=⟨W.aE,fun b2 dP=>W.cC b2 (by simp [dP]),(l7.1 W.gX).2,fun d R=>W.mu d Rs⟩
  have J:=c an bL j bI
  -- the footprint of L' lies in that of L: shown through a call that owns just these
  have Fq:cl j (ei C) C j:=⟨Frame.refl j _,bI.cC,bI.gX,fun d R=>.inr R⟩
  have aA:=c j (ei C) j Fq
  have yA:∀ d∈ei B,d∈ei C:=fun d R=>by
    rcases aA.mu d R with aZ|aZ
    · have:=aA.lt d R;omega
    · exact aZ
  refine ⟨W.aE,fun b2 dP=>?_,l7.2 ⟨fun b2 dP d R hB=>?_,J.gX⟩,fun d R=>?_⟩
  · rcases fb.1 dP with rfl|dP
    · exact W.cC b2 oU
    · exact J.cC b2 dP
  · obtain ⟨cO,fL,On⟩:=jO.1 (yA d (jO.2 ⟨b2,dP,hB⟩))
    exact (l7.1 W.gX).1 cO fL d R On
  · rw [ya,iE] at R
    rcases R with R|R
    · exact W.mu d Rs
    · exact J.mu d R
end
section
variable {i:cM} {d:List eH} {D:bW} {C B:List aB} {eu:List aB} {ar:aB} {m:Value} {H:Nat} {bZ:List (List Value)}
def K.hv(c:a' C B)(ag:K i d D B):K i d D C:=fun ok l j V W=>ag ok l j V (c _ _ _ W)
def K.hZ(b:Nat)(ac:i.dO[b]?=some (hZ eu))(bh:ar∈eu)(c:K { i with dO:=i.dO++[ar] } d D C):K i d D C:=fun ok l j V W =>
  c (fun b2 dP=>by
    rcases iE.1 dP with dP|dP
    · exact ok b2 dP
    · obtain rfl:=nm.1 dP
      obtain ⟨G,J⟩:=ok _ (eF ac)
      exact ⟨G b2 bh,fun d R=>J d (jO.2 ⟨b2,bh,R⟩)⟩) l j V W
def TM{bi:Type}{z L:bi→aB}{f:List bi}(c:∀ e∈f,∀ j,(z e).holds j→(L e).holds j∧∀ d∈(L e).dT,d∈(z e).dT):∀ j,(c1 (f.map z)).holds j→(hZ (f.map L)).holds j∧∀ d∈(hZ (f.map L)).dT,d∈(c1 (f.map z)).dT:=fun j bU=>by
  refine ⟨fun ar bI=>?_,fun d R=>?_⟩
  · obtain ⟨e,Q,rfl⟩:=bx.1 bI
    exact (c e Q j (bU.1 _ (bx.2 ⟨e,Q,rfl⟩))).1
  · obtain ⟨ar,bI,R⟩:=jO.1 R
    obtain ⟨e,Q,rfl⟩:=bx.1 bI
    exact jO.2 ⟨z e,bx.2 ⟨e,Q,rfl⟩,(c e Q j (bU.1 _ (bx.2 ⟨e,Q,rfl⟩))).2 d R⟩
end
end Go.LK
namespace Go.LK
open Go Go.RowKit
def atB{vW:Array Value}{H t:Nat}(W:vW.size=H)(nh:0 < H):(Array.range (t*H)).map (vW[·%vW.size]!)=(List.replicate t vW.toList).flatten.toArray:=by
  have S:∀ e∈List.replicate t vW.toList,e.length=H:=fun e Q=>by rw [aat Q];simpa using W
  apply Array.ext_getElem?
  intro b
  by_cases ac:b < t*H
  · have G:b / H < t:=aaD (by rw [La];exact ac)
    have J:b%H < vW.size:=by rw [W];exact Nat.mod_lt _ nh
    have aA:=EL (b:=b / H) (r:=vW.toList) (k:=b%H) (aG:=vW[b%H]) S (by rw [GJ,ee G]) (by simp [J])
    rw [show b / H*H+b%H=b from by rw [La];exact Nat.div_add_mod b H] at aA
    rw [Array.getElem?_map,Array.getElem?_range,Bs,aA]
    simp only [ac,if_true,Bx,W]
    rw [getElem!_pos vW (b%H) J]
  · rw [BA v1,Bs,vU (by rw [r3 S];simp;omega)]
def aq.yH{bi:Type}{aI:bi}{z:bi→List Value}{u Y aX:TypeId}{i:cM}{D:bW}{C:List aB}{t H bytes:Nat}{A:Int}{jm:TypeInfo}{eU:Value}{e F:Operand}(cF:∀ j,(underlying Y).run i.o j=.ok (.slice u) j)(ac:∀ j,(typeInfo u).run i.o j=.ok jm j)(av:jm.bytes=bytes)(W:∀ j,(sizeOf u).run i.o j=.ok H j)(ce:∀ j,(zeroValue u).run i.o j=.ok eU j)
    (Q:aT D e=some (.b A)) (az:aT D F=some (.b A)) (a6:A=(t:Int)) (bh:t≤1000000) (VH:bytes≤1000) (ni:eU.cells.size=H) (nh:Nat.blt 0 H=true) (jw:H≤1000) (bc:eU.cells.toList=z aI) :
    aq i D C (.makeSlice Y e F) aX fun m B=>B=row m u H ((List.replicate t aI).map z) :: C:=fun _ l j V ci y pos cT L bN cz dj=>by
  subst a6
  have al0:0 < H:=Q9 fun c=>by (have:H=0:=by omega);subst this;simp [Nat.blt] at nh
  have akB:(List.replicate t aI).map z=List.replicate t eU.cells.toList:=by rw [KX,bc]
  have ug:∀ e∈List.replicate t eU.cells.toList,e.length=H:=fun e Q=>by rw [aat Q];simpa using ni
  have bU:IntKind.i64.wrap (t:Int)=t:=by
    simp [IntKind.wrap,IntKind.bits,IntKind.signed];omega
  have rP:¬(281474976710656 < (bytes:Int)*(t:Int)):=by
    have c:bytes*t≤1000*1000000:=Nat.mul_le_mul VH bh
    have J:=Int.ofNat_le.2 c
    rw [Int.natCast_mul] at J
    exact fun aS=>absurd (Int.lt_of_lt_of_le aS J) bd
  have pd:¬((t:Int) < 0):=by omega
  have OG:=atB (vW:=eU.cells) (t:=t) ni al0
  refine lJ (m:=.slice (some ⟨j.heap.size,0,none⟩) t t) (bQ:=j.alloc (.cells (List.replicate t eU.cells.toList).flatten.toArray u)) ?_ (dj _ _ _ rfl (cl.add ci (Cq j _) ?_ zm))
  · by_cases jv:t=0
    · subst jv
      have kY:IntKind.i64.wrap 0=0:=by decide
      simp [execOp,V.aT Q,V.aT az,Instr.makeSlice,asInt,asIntOf,cF,ac,av,W,kY,A_]
      rw [show Array.range 0=#[] from Q8 oU]
      simp
    · have ea:¬t*H=0:=Nat.mul_ne_zero jv E
      simp [execOp,V.aT Q,V.aT az,Instr.makeSlice,asInt,asIntOf,cF,ac,av,W,ce,bU,rP,pd,jv,(E:¬H=0),A_]
      rw [OG,be ea]
  · rw [akB]
    refine ⟨?_,ug⟩
    refine ⟨r3 ug,.inr ⟨j.heap.size,t,_,by simp,GG _,heap_alloc_new j _,by simp,?_,by simp [r3 ug],?_⟩⟩
    · unfold maxLen;omega
    · rw [ir (by simp [r3 ug])]
end Go.LK
namespace Go.LK
open Go Go.RowKit
section
variable {i:cM} {D:bW} {C:List aB} {aX:TypeId} {e:Operand}
def U.Pc{fn:Fn}{dq cap:List Operand}(th ae:List Value)(Q:dq.map (aT D)=th.map some)(aS:cap.map (aT D)=ae.map some):U i D (.makeFunc fn dq.toArray cap.toArray) aX (.func fn th.toArray ae.toArray):=fun l j V _ _ _ _=>by
  simp [execOp,Instr.makeFunc,V.dn Q,V.dn aS]
def aV.JH{v:Op}{m X:Value}{l3:Nat}{bZ:List (List Value)}(W:ax i C X l3 bZ)(c:X.oneCell'=true→aV i D C v aX m):aV i D C v aX m:=fun ok l j V ci=>c (zW (W ok j ci)) ok l j V ci
def aq.aho{z:FuncId}{dq:List Operand}{eW:Array TypeId}{first ae fP:List Value}{en dW:List aB}{post:Value→List aB→Prop}(mI:∀ args j,(callFunc z args).run i.o j=.ok (.enter z args) j)(Q:aT D e=some (.func (.func z) first.toArray fP.toArray))
    (ly:dq.map (aT D)=ae.map some) (bA:M i.o z (first++ae++fP).toArray en dW post) (bt ec:List Nat) (aw:(bt++ec).Nodup) (dv:LK.dB C bt=dW) (ah:List aB) (dI:LK.dB C ec=ah) (fM:eI i C dW en) :
    aq i D C (.call { callee:=.value e,args:=dq.toArray,argTypes:=eW }) aX fun m B=>∃ de,post m de∧B=de++ah:=fun ok l j V ci y pos cT L bN cz dj=>by
  have CQ:cl i.an i.bL (dW++ah) j:=by
    exact ab5
  have Fu:=p7.1 CQ.gX
  have fL:cl j (ei dW) dW j:=⟨Frame.refl j _,fun ar bI=>CQ.cC ar xC,Fu.1,fun d R=>.inr R⟩
  have VI:=bA j (fM ok j ci) fL
  have Aq:(execOp l.eval ⟨y,.call { callee:=.value e,args:=dq.toArray,argTypes:=eW },aX,pos,cT,L⟩).run i.o j=.ok (.enter z (first++ae++fP).toArray) j:=by
    exact ab3
  exact adG
end
end Go.LK
namespace Go.LK
open Go Go.RowKit
section
variable {bi:Type}
def cx:List (Int×bi)→Int→Option bi
  | [],_=>none
  | n :: t,d=>if n.1=d then some n.2 else cx t d
def e':List (Int×bi)→Int→bi→List (Int×bi)
  | [],d,m=>[(d,m)]
  | n :: t,d,m=>if n.1=d then (d,m) :: t else n :: e' t d m
def e3(t:List (Int×bi))(d:Int):List (Int×bi):=t.filter fun n=>decide (n.1≠d)
def lM:List (Int×bi)→Int→Nat→Option (Nat×bi)
  | [],_,_=>none
  | n :: t,d,b=>if n.1=d then some (b,n.2) else lM t d (b+1)
def ex(t:List (Int×bi)):List Int:=t.map (·.1)
def lQ(t:List (Int×bi))(d cD:Int)(m:bi):cx (e' t d m) cD=if d=cD then some m else cx t cD:=by
  induction t with
  | nil=>simp [e',cx]
  | cons n t b6 =>
    simp only [e']
    by_cases c:n.1=d
    · rw [ee c];simp only [cx]
      by_cases J:d=cD
      · simp [J]
      · have:¬n.1=cD:=fun r=>J (c.symm.trans r)
        simp [J,this]
    · rw [be c];simp only [cx,b6]
      by_cases J:d=cD
      · subst J;simp [c]
      · simp [J]
def sG(t:List (Int×bi))(d cD:Int):cx (e3 t d) cD=if d=cD then none else cx t cD:=by
  induction t with
  | nil=>simp [e3,cx]
  | cons n t b6 =>
    have bB:e3 (n :: t) d=if n.1=d then e3 t d else n :: e3 t d:=by
      unfold e3;rw [nR];by_cases c:n.1=d<;>simp [c]
    rw [bB]
    by_cases c:n.1=d
    · rw [ee c,b6];simp only [cx]
      by_cases J:d=cD
      · simp [J]
      · have:¬n.1=cD:=fun r=>J (c.symm.trans r)
        simp [J,this]
    · rw [be c];simp only [cx,b6]
      by_cases J:d=cD
      · subst J;simp [c]
      · simp [J]
def UV{t:List (Int×bi)}{d:Int}{m:bi}(c:cx t d=some m):(d,m)∈t:=by
  induction t with
  | nil=>simp [cx] at c
  | cons n t b6 =>
    simp only [cx] at c
    by_cases ad:n.1=d
    · rw [ee ad] at c;cases c;rw [←ad];simp
    · rw [be ad] at c;exact gS _ (b6 c)
def EO{t:List (Int×bi)}{d:Int}:(∃ m,cx t d=some m)↔d∈ex t:=by
  induction t with
  | nil=>simp [cx,ex]
  | cons n t b6 =>
    simp only [cx,ex,kO,fb]
    by_cases ad:n.1=d
    · simp [ad]
    · rw [be ad,b6];constructor
      · exact fun c=>.inr c
      · rintro (c|c)
        · exact absurd c.symm ad
        · exact c
def ajD{t:List (Int×bi)}{d:Int}:cx t d=none↔d∉ex t:=by
  rw [←EO]
  cases cx t d<;>simp
def agB(t:List (Int×bi))(d:Int):∀ b,(lM t d b).map (·.2)=cx t d:=by
  induction t with
  | nil=>intro b;rfl
  | cons n t b6 =>
    intro b
    simp only [lM,cx]
    exact RQ
def agE{t:List (Int×bi)}{d:Int}:∀ {b k:Nat} {m aG:bi},lM t d b=some (k,m)→∃ s,k=b+s∧s < t.length∧(t[s]?).map (·.1)=some d∧e' t d aG=t.set s (d,aG):=by
  induction t with
  | nil=>intro b k m aG c;simp [lM] at c
  | cons n t b6 =>
    intro b k m aG c
    simp only [lM] at c
    by_cases ad:n.1=d
    · rw [ee ad] at c
      simp at c
      exact ⟨0,by omega,by simp,by simp [ad],by simp [e',ad]⟩
    · rw [be ad] at c
      obtain ⟨s,G,J,aA,aZ⟩:=b6 (aG:=aG) c
      exact ⟨s+1,by omega,by simp;omega,by simpa using aA,by simp [e',ad,aZ]⟩
def agD{t:List (Int×bi)}{d:Int}:∀ {b:Nat} {aG:bi},lM t d b=none→e' t d aG=t++[(d,aG)]∧d∉ex t:=by
  induction t with
  | nil=>intro b aG _;exact ⟨rfl,by simp [ex]⟩
  | cons n t b6 =>
    intro b aG c
    simp only [lM] at c
    by_cases ad:n.1=d
    · rw [ee ad] at c;cases c
    · rw [be ad] at c
      obtain ⟨G,J⟩:=b6 (aG:=aG) c
      refine ⟨by simp [e',ad,G],?_⟩
      simp only [ex,kO,fb,not_or]
      exact ⟨fun r=>ad r.symm,J⟩
def aik{t:List (Int×bi)}{d:Int}:∀ {b k:Nat} {m:bi},(ex t).Nodup→lM t d b=some (k,m)→∃ s,k=b+s∧s < t.length∧e3 t d=t.eraseIdx s:=by
  induction t with
  | nil=>intro b k m _ c;simp [lM] at c
  | cons n t b6 =>
    intro b k m aw c
    simp only [lM] at c
    have mK:=kP.1 aw
    by_cases ad:n.1=d
    · rw [ee ad] at c
      simp at c
      refine ⟨0,by omega,by simp,?_⟩
      unfold e3
      rw [nR,be (by simp [ad])]
      simp only [List.eraseIdx_cons_zero]
      refine rk.2 fun A a6=>?_
      have:A.1≠d:=fun r=>mK.1 (bx.2 ⟨A,a6,by simp [r,ad]⟩)
      simp [this]
    · rw [be ad] at c
      obtain ⟨s,G,J,aA⟩:=b6 mK.2 c
      refine ⟨s+1,by omega,by simp;omega,?_⟩
      unfold e3 at aA ⊢
      rw [nR,ee (by simp [ad]),aA]
      rfl
def Uc{t:List (Int×bi)}{d:Int}(c:d∉ex t):e3 t d=t:=rk.2 fun A a6=>by
  have:A.1≠d:=fun r=>c (by rw [←r];exact bx.2 ⟨A,a6,rfl⟩)
  simp [this]
def w0{n:Int×bi}{t:List (Int×bi)}:ex (n :: t)=n.1 :: ex t:=rfl
def aoL{t:List (Int×bi)}{d:Int}{m:bi}(c:d∈ex t):ex (e' t d m)=ex t:=by
  induction t with
  | nil=>simp [ex] at c
  | cons n t b6 =>
    simp only [e']
    by_cases ad:n.1=d
    · rw [ee ad,w0,w0,ad]
    · rw [be ad,w0,w0]
      rw [w0,fb] at c
      rcases c with c|c
      · exact absurd c.symm ad
      · rw [b6 c]
def aoM{t:List (Int×bi)}{d:Int}{m:bi}(c:d∉ex t):ex (e' t d m)=ex t++[d]:=by
  induction t with
  | nil=>rfl
  | cons n t b6 =>
    rw [w0,fb,not_or] at c
    simp only [e']
    rw [be (fun r=>c.1 r.symm),w0,w0,b6 c.2]
    rfl
def agC{t:List (Int×bi)}{d:Int}:∀ {b:Nat},lM t d b=none→d∉ex t:=by
  induction t with
  | nil=>intro b _;simp [ex]
  | cons n t b6 =>
    intro b c
    simp only [lM] at c
    by_cases ad:n.1=d
    · rw [ee ad] at c;cases c
    · rw [be ad] at c
      simp only [ex,kO,fb,not_or]
      exact ⟨fun r=>ad r.symm,b6 c⟩
def yO{t:List (Int×bi)}{d:Int}{m:bi}(c:(ex t).Nodup):(ex (e' t d m)).Nodup:=by
  by_cases R:d∈ex t
  · rw [aoL R];exact c
  · rw [aoM R]
    exact lm.2 ⟨c,by simp,fun l V p av=>by simp at av;subst av;exact fun r=>R (r ▸ V)⟩
def FP{t:List (Int×bi)}{d:Int}(c:(ex t).Nodup):(ex (e3 t d)).Nodup:=List.Sublist.nodup (Ra _ zd) c
def agF{z:bi→Value}(t:List (Int×bi))(d:Int):∀ b,sw (t.map fun n=>([n.1],z n.2)) [d] b=(lM t d b).map fun A=>(A.1,z A.2):=by
  induction t with
  | nil=>intro b;rfl
  | cons n t b6 =>
    intro b
    simp only [kO,sw,lM,oR,and_true]
    exact RQ
end
def Pe{bi mU:Type}{L:bi→mU}:∀ {f:List bi} {b:Nat},(f.eraseIdx b).map L=(f.map L).eraseIdx b
  | [],_=>rfl
  | _ :: _,0=>rfl
  | l :: f,b+1=>by simp [Pe (f:=f) (b:=b)]
structure kT {bi:Type} (z:bi→Value) (t:List (Int×bi)) (cV:Array MapEntry) (di:Nat):Prop where
  eq:cV.toList.map (fun r=>(r.key,r.val))=t.map (fun n=>(Value.b n.1,z n.2))
  wZ:(ex t).Nodup
  born:(cV.toList.map (·.born)).Nodup
  kr:∀ e∈cV.toList,e.born < di
def cw{bi:Type}(p:Nat)(z:bi→Value)(t:List (Int×bi)):aB where
  dT:=[p]
  holds j:=∃ cV di,j.heap[p]?=some (.map cV di)∧kT z t cV di
  lt j c d R:=by
    obtain ⟨cV,di,G,_⟩:=c
    exact RK
  oM j bQ bU c:=by
    obtain ⟨cV,di,G,J⟩:=c
    exact ⟨cV,di,by rw [bU p oU];exact G,J⟩
def r4{bi:Type}(m:Value)(z:bi→Value)(t:List (Int×bi)):aB where
  dT:=match m with|.map (some p)=>[p]|_=>[]
  holds j:=(m=.map none∧t=[])∨∃ p,m=.map (some p)∧(cw p z t).holds j
  lt j c d R:=by
    rcases c with ⟨rfl,_⟩|⟨p,rfl,c⟩
    · simp at R
    · exact (cw p z t).lt j c d R
  oM j bQ bU c:=by
    rcases c with c|⟨p,rfl,c⟩
    · exact .inl c
    · exact .inr ⟨p,rfl,(cw p z t).oM j bQ bU c⟩
section
variable {bi:Type} {z:bi→Value} {t:List (Int×bi)} {cV:Array MapEntry} {di:Nat}
def kT.len(c:kT z t cV di):cV.size=t.length:=by
  have:=dz List.length c.eq
  simpa using this
def kT.find{o:Program}{u:TypeId}(c:kT z t cV di)(bA:o.underlying u=some (.int .i64))(j:World)(d:Int):(Instr.findKey u (.b d) cV.toList).run o j=.ok ((lM t d 0).map fun A=>(A.1,z A.2)) j:=by
  have G:=(tD.int bA).find j [d] cV.toList (t.map fun n=>([n.1],z n.2)) (by rw [c.eq,rl];rfl) rfl (fun n ad=>by obtain ⟨A,_,rfl⟩:=bx.1 ad;rfl)
  rw [agF] at G
  exact G
def kT.put(c:kT z t cV di)(d:Int)(aG:bi):match lM t d 0 with
    | some (k,_)=>k < cV.size∧(cV[k]?).map (·.key)=some (.b d)∧kT z (e' t d aG) (cV.modify k fun r=>{ r with key:=.b d,val:=z aG }) di
    | none=>kT z (e' t d aG) (cV.push { key:=.b d,val:=z aG,born:=di }) (di+1):=by
  have gI:=c.len
  cases ft:lM t d 0 with
  | none =>
    obtain ⟨W,R⟩:=agD (aG:=aG) ft
    refine ⟨?_,yO c.wZ,?_,?_⟩
    · rw [W];simp [c.eq]
    · rw [za148,gR]
      refine lm.2 ⟨c.born,by simp,fun l V p av=>?_⟩
      obtain ⟨e,Q,rfl⟩:=bx.1 V
      simp at av;subst av
      have:=c.kr e Q
      omega
    · intro e Q
      rw [za148,iE] at Q
      rcases Q with Q|Q
      · have:=c.kr e Q;omega
      · simp at Q;subst Q;simp
  | some n =>
    obtain ⟨k,m⟩:=n
    obtain ⟨A,ag,a6,OF,W⟩:=agE (aG:=aG) ft
    have Ol:k=A:=by omega
    subst Ol
    have vh:k < cV.size:=by omega
    have aZ:(cV.toList.map (fun r=>(r.key,r.val)))[k]?=(t.map (fun n=>(Value.b n.1,z n.2)))[k]?:=by rw [c.eq]
    rw [hy,hy,QY,om vh,et a6] at aZ
    rw [et a6] at OF
    simp at aZ OF
    have av:(cV.modify k fun r=>{ r with key:=Value.b d,val:=z aG }).toList.map (·.born)=cV.toList.map (·.born):=by
      apply xz
      intro b
      simp only [hy,QY,aaB]
      by_cases mi:k=b
      · subst mi;simp [vh]
      · simp [mi]
    refine ⟨vh,by rw [om vh];simp [aZ.1,OF],?_,yO c.wZ,by rw [av];exact c.born,?_⟩
    · rw [W]
      apply xz
      intro b
      have bT:(cV.toList.map (fun r=>(r.key,r.val)))[b]?=(t.map (fun n=>(Value.b n.1,z n.2)))[b]?:=by rw [c.eq]
      simp only [hy,QY,aaB,qH] at bT ⊢
      by_cases mi:k=b
      · subst mi
        simp [vh,a6]
      · simp [mi,bT]
    · intro e Q
      have CT:e.born∈(cV.modify k fun r=>{ r with key:=Value.b d,val:=z aG }).toList.map (·.born):=bx.2 ⟨e,Q,rfl⟩
      rw [av] at CT
      obtain ⟨F,az,aC⟩:=bx.1 CT
      rw [←aC];exact c.kr F az
def kT.M5(c:kT z t cV di)(d:Int):match lM t d 0 with
    | some (k,_)=>kT z (e3 t d) (cV.eraseIdxIfInBounds k) di
    | none=>kT z (e3 t d) cV di:=by
  have gI:=c.len
  cases ft:lM t d 0 with
  | none =>
    have kE:=agC ft
    rw [Uc kE];exact c
  | some n =>
    obtain ⟨k,m⟩:=n
    obtain ⟨s,ag,aw,ao⟩:=aik c.wZ ft
    have pc:k=s:=by omega
    subst pc
    have vh:k < cV.size:=by omega
    have bA:(cV.eraseIdxIfInBounds k).toList=cV.toList.eraseIdx k:=by
      rw [Array.eraseIdxIfInBounds,dif_pos vh,Array.toList_eraseIdx]
    have yA:List.Sublist (cV.toList.eraseIdx k) cV.toList:=List.eraseIdx_sublist _ _
    refine ⟨?_,FP c.wZ,?_,?_⟩
    · rw [bA,ao,Pe,Pe,c.eq]
    · rw [bA];exact List.Sublist.nodup (Ra _ yA) c.born
    · intro e Q
      rw [bA] at Q
      exact c.kr e (yA.mem Q)
def kT.nil:kT z [] #[] di:=⟨rfl,by simp [ex],by simp,by simp⟩
end
section
variable {bi:Type} {z:bi→Value} {t:List (Int×bi)} {i:cM} {D:bW} {C:List aB} {aX Y d r:TypeId} {e F aI:Operand} {p:Nat}
def aq.AX(z:bi→Value):aq i D C (.makeMap Y none) aX fun m B=>∃ p,m=.map (some p)∧B=cw p z [] :: C:=fun _ l j _ W y pos cT L bN cz dj =>
  lJ (m:=.map (some j.heap.size)) (bQ:=j.alloc (.map #[] 0)) (by simp [execOp,run_makeMap])
    (dj _ _ _ ⟨_,rfl,rfl⟩ (W.add (Cq j _) ⟨#[],0,heap_alloc_new j _,kT.nil⟩ (by simp [cw])))
inductive hS (i:cM) (C:List aB) (m:Value) {bi:Type} (z:bi→Value) (t:List (Int×bi)):Prop
  | fy (b:Nat) (p:Nat) (ba:m=.map (some p)) (ac:C[b]?=some (cw p z t))
  | b0 (b:Nat) (p:Nat) (ba:m=.map (some p)) (ac:i.dO[b]?=some (cw p z t))
  | nil (ba:m=.map none) (bh:t=[])
  | at9 (b:Nat) (ac:i.dO[b]?=some (r4 m z t))
def hS.holds{m:Value}(c:hS i C m z t)(ok:i.bC){j:World}(W:cl i.an i.bL C j):(r4 m z t).holds j:=by
  cases c with
  | fy b p ba ac=>exact .inr ⟨p,ba,W.cC _ (eF ac)⟩
  | b0 b p ba ac=>exact .inr ⟨p,ba,i.b0 ok W ac⟩
  | nil ba bh=>exact .inl ⟨ba,bh⟩
  | at9 b ac=>exact i.b0 ok W ac
def YU{o:Program}{j:World}{m eU:Value}{key:Int}(cF:o.underlying Y=some (.map d r))(R:o.underlying d=some (.int .i64))(ce:∀ j,(zeroValue r).run o j=.ok eU j)(bh:(r4 m z t).holds j)(ok:Bool) :
    (Instr.lookup Y m (.b key) ok).run o j=.ok (if ok then .tuple #[((cx t key).map z).getD eU,.bool (cx t key).isSome] else ((cx t key).map z).getD eU) j:=by
  have aS:∀ em,(Instr.checkKey em 10000 d (.b key)).run o j=.ok () j:=fun em=>(tD.int R).e7 j em [key] rfl
  rcases bh with ⟨rfl,rfl⟩|⟨p,rfl,cV,di,G,hl⟩
  · have bc:(Instr.findKey d (.b key) []).run o j=.ok none j:=by simp [Instr.findKey,jf R,Instr.findNow]
    simp only [Instr.lookup,nn,jf cF,k7,se,aS,bc,ce,cx]
    cases ok<;>rfl
  · have bc:=hl.find R j key
    have bq:(getObj p).run o j=.ok (.map cV di) j:=by simp [getObj,Sem.run,G]
    have V:=agB t key 0
    simp only [Instr.lookup,nn,jf cF,k7,bq,aS,bc,se]
    cases ft:lM t key 0 with
    | none=>rw [ft] at V;cases ok<;>simp [←V,ce]
    | some n=>obtain ⟨b,m⟩:=n;rw [ft] at V;cases ok<;>simp [←V]
def aV.mr{m eU X:Value}{key:Int}(cF:i.o.underlying Y=some (.map d r))(R:i.o.underlying d=some (.int .i64))(ce:∀ j,(zeroValue r).run i.o j=.ok eU j)(Q:aT D e=some m)(az:aT D F=some (.b key))(bh:hS i C m z t)(kn:((cx t key).map z).getD eU=X) :
    aV i D C (.lookup Y e F false) aX X:=fun ok l j V W _ _ _ _=>by
  have G:=YU (j:=j) (key:=key) cF R ce (bh.holds ok W) false
  subst kn
  exact RU
def aV.s0{m eU X:Value}{key:Int}{A:Bool}(cF:i.o.underlying Y=some (.map d r))(R:i.o.underlying d=some (.int .i64))(ce:∀ j,(zeroValue r).run i.o j=.ok eU j)(Q:aT D e=some m)(az:aT D F=some (.b key))(bh:hS i C m z t)(kn:((cx t key).map z).getD eU=X)(a6:(cx t key).isSome=A) :
    aV i D C (.lookup Y e F true) aX (.tuple #[X,.bool A]):=fun ok l j V W _ _ _ _=>by
  have G:=YU (j:=j) (key:=key) cF R ce (bh.holds ok W) true
  subst kn a6
  exact RU
def aV.Xa{m:Value}{eW:Array TypeId}(bB:eW[0]?=some Y)(cF:i.o.underlying Y=some (.map d r))(Q:aT D e=some m)(bh:hS i C m z t):aV i D C (.call { callee:=.builtin .len,args:=#[e],argTypes:=eW }) aX (.b t.length):=fun ok l j V W _ _ _ _=>by
  have c:=bh.holds ok W
  have:(Builtin.len_ eW aX #[m]).run i.o j=.ok (.b t.length) j:=by
    rcases c with ⟨rfl,rfl⟩|⟨p,rfl,cV,di,G,hl⟩
    · simp [Builtin.len_,bB,jf cF,Result.andThen,goInt]
    · have bq:(getObj p).run i.o j=.ok (.map cV di) j:=by simp [getObj,Sem.run,G]
      simp [Builtin.len_,bB,jf cF,Result.andThen,bq,goInt,hl.len]
  simp [execOp,resolve,invoke,V.aT Q,builtin,this]
end
end Go.LK
