/-
  Rules and plain laws that the walks use.
-/
import Derived.Test.YtohjlkjhpibkmaaGreatDoorE01
import Derived.StillTail
import Derived.MapKept
import Derived.Carry
set_option linter.all false
namespace Go.LK
open Go Go.RowKit
def xM(i:cM)(D:bW)(C:List aB)(ak:Array Oper)(v:Oper)(m:Value):Prop :=
  i.bC→∀ l j,hH i.s l D→cl i.an i.bL C j →
    (Region.wanted v (yielded ak l.tmps)=true∧((execOp l.eval v).run i.o j=.ok (.value m) j ∨
      ∃ z args,(execOp l.eval v).run i.o j=.ok (.enter z args) j∧Calls i.o z args j fun r bQ=>r=.returned m∧Frame j [] bQ)) ∨
    (Region.wanted v (yielded ak l.tmps)=false∧m=undef)
structure Hg (i:cM) (ay:List Value) (aX:TypeId) (v:Oper):Prop where
  op:v.op=.alloc aX
  guard:v.guard=none
  run:∀ (aT:Operand→Value) j,(execOp aT v).run i.o j=.ok (.value (.n j.heap.size)) (j.alloc (.cells ay.toArray aX))
def FR(v:Oper):Bool:=match v.op with|.alloc _=>false|_=>true
def e0(i:cM)(ak:Array Oper)(Y:bW→Prop)(C:List aB):List Oper→bW→Prop
  | [],D=>Y D
  | v :: bv,D=>∃ y m,v.dst=some y∧Nat.blt y i.s=true∧(xM i D C ak v m∨FR v=false)∧e0 i ak Y C bv ((y,m) :: D)
def waits(ak:Array Oper)(b k:Nat):Bool :=
  match ak[b]? with
  | some v=>v.after.any fun r=>Region.binds .any r&&r.on == k
  | none=>false
def Fa(ak:Array Oper)(s t:Nat):Bool :=
  (ak.all fun v=>match v.op with|.select ..=>false|_=>true)&&Nat.ble s ak.size &&
  (List.range s).all (fun b=>match (ak[b]?) with
    | none=>false
    | some v=>v.after.all (fun r=>!Region.binds .any r || Nat.blt r.on b) &&
      match v.dst with
      | none=>false
      | some y=>(List.range s).all (fun k=>k == b || (match ak[k]? with|none=>false|some n=>n.dst != some y)) &&
        !(v.looksAt ak).contains y &&
        (v.looksAt ak).all fun u=>(List.range s).all fun k=>(match ak[k]? with|none=>false|some n=>n.dst != some u) || waits ak b k) &&
  (List.range s).all (fun b=>s == ak.size || (List.range (s+1)).any fun k=>Nat.blt b k&&waits ak k b) &&
  (List.range ak.size).all (fun u=>Nat.ble u s || waits ak u (u-1)) &&
  (List.range s).all (fun b=>!waits ak b t&&(b == t || match ak[b]? with|none=>false|some v=>FR v)) &&
  Region.seqB .any ak (ak.size-s) s ((List.range ak.size).map (fun b=>Nat.blt b s)).toArray
def pre:List (Nat×Value)→bW→bW
  | [],D=>D
  | n :: af,D=>pre af (n :: D)
def pm:List (Nat×Value)→Act→Act
  | [],l=>l
  | n :: af,l=>pm af (l.put (some n.1) n.2)
def PN{s:Nat}:∀ {af:List (Nat×Value)} {l:Act} {D:bW},(∀ n∈af,Nat.blt n.1 s=true)→hH s l D→hH s (pm af l) (pre af D)
  | [],_,_,_,c=>c
  | n :: af,_,_,av,c=>PN (af:=af) (fun A a6=>av A aa') (c.put n.2 (av n oU))
def vy(l:Act)(y u:Nat)(m:Value)(ao:y < l.tmps.size):(l.put (some y) m).tmps.getD u undef=if y=u then m else l.tmps.getD u undef:=by
  simp only [Act.put]
  by_cases r:y=u
  · subst r;simp [l6,ao]
  · rw [be r,l6,l6,Dx r]
def Ga(l:Act)(y:Nat)(m:Value):(l.put (some y) m).tmps.size=l.tmps.size:=by simp [Act.put]
def X9:∀ (af:List (Nat×Value)) (l:Act),(pm af l).tmps.size=l.tmps.size
  | [],_=>rfl
  | n :: af,l=>by simp only [pm,X9 af,Ga]
def J1:∀ (af:List (Nat×Value)) (l:Act) (u:Nat),(∀ n∈af,n.1 < l.tmps.size)→(∀ n∈af,n.1≠u)→(pm af l).tmps.getD u undef=l.tmps.getD u undef
  | [],_,_,_,_=>rfl
  | n :: af,l,u,av,aw=>by
    simp only [pm]
    rw [J1 af _ u (fun A a6=>by rw [Ga];exact av A aa') (fun A a6=>aw A aa'),vy _ _ _ _ (av n oU),be (aw n oU)]
def PM:∀ (af:List (Nat×Value)) (l:Act) (k:Nat) (n:Nat×Value),(∀ n∈af,n.1 < l.tmps.size)→(∀ b A,af[b]?=some A→b≠k→A.1≠n.1)→af[k]?=some n→(pm af l).tmps.getD n.1 undef=n.2
  | [],_,_,_,_,_,c=>by simp at c
  | A :: af,l,0,n,av,aw,c=>by
    simp at c;subst c
    simp only [pm]
    rw [J1 af _ _ (fun Z cs=>by rw [Ga];exact av Z (by simp [cs])),vy _ _ _ _ (av A oU),ee rfl]
    intro Z cs
    obtain ⟨b,ac⟩:=kw.1 cs
    exact aw (b+1) Z Lx E
  | A :: af,l,k+1,n,av,aw,c=>by
    simp only [pm]
    exact PM af _ k n (fun Z cs=>by rw [Ga];exact av Z (by simp [cs])) (fun b Z ac ea=>aw (b+1) Z Lx E) G4
def VO{i:cM}{ak:Array Oper}{Y:bW→Prop}{C:List aB}:∀ {bv:List Oper} {D:bW},e0 i ak Y C bv D→∃ af:List (Nat×Value),af.length=bv.length∧Y (pre af D) ∧
    ∀ b n v,af[b]?=some n→bv[b]?=some v→v.dst=some n.1∧Nat.blt n.1 i.s=true∧(xM i (pre (af.take b) D) C ak v n.2∨FR v=false)
  | [],D,c=>⟨[],rfl,c,fun b n v ac=>by simp at ac⟩
  | v :: bv,D,c=>by
    obtain ⟨y,m,ao,av,bw,cs⟩:=c
    obtain ⟨af,S,cF,yw⟩:=VO cs
    refine ⟨(y,m) :: af,by simp [S],cF,fun b n jo ac uh=>?_⟩
    cases b with
    | zero=>simp at ac uh;subst ac;subst uh;exact ⟨ao,av,bw⟩
    | succ b =>
      simp only [Dy] at ac uh
      have:=yw b n jo ac uh
      simpa [pre] using this
def Xv:∀ (f:List Nat),f.Nodup→∀ b,f.erase b=f.filter (fun k=>k != b)
  | [],_,_=>rfl
  | l :: f,c,b=>by
    rw [kP] at c
    by_cases r:l=b
    · subst r
      have J:f.filter (fun k=>k != l)=f:=rk.2 fun k ag=>by
        have:k≠l:=fun r=>c.1 (r ▸ ag)
        simpa using this
      simp [J]
    · have aA:(l == b)=false:=by simpa using r
      rw [List.erase_cons,aA,nR]
      simp [r,Xv f c.2 b]
def Ua{f:List Nat}(gv:f.Nodup){n ks:Nat→Bool}{b:Nat}(ac:b∈f)(ad:n b=true)(c:∀ k∈f,ks k=(n k&&k != b)):(f.filter ks).length+1=(f.filter n).length:=by
  have r:f.filter ks=(f.filter n).erase b:=by
    rw [Xv _ (gv.filter n) b,KY]
    exact KO fun k ag=>by rw [c k ag,Bool.and_comm]
  have bh:b∈f.filter n:=pt.2 ⟨ac,ad⟩
  rw [r,aas bh]
  have:=Rb bh
  omega
structure aek (ak:Array Oper) (s t:Nat):Prop where
  Jy:∀ (k:Nat) (v:Oper) ay p,ak[k]?=some v→v.op≠.select ay p
  le:s≤ak.size
  o3:∀ b,b < s→∀ k,waits ak b k=true→k < b
  head:∀ b,b < s→∃ v y,ak[b]?=some v∧v.dst=some y∧(∀ k n,k < s→k≠b→ak[k]?=some n→n.dst≠some y)∧y∉v.looksAt ak ∧
    ∀ u∈v.looksAt ak,∀ k n,k < s→ak[k]?=some n→n.dst=some u→waits ak b k=true
  avb:s < ak.size→∀ b,b < s→∃ k,b < k∧k≤s∧waits ak k b=true
  chain:∀ u,s < u→u < ak.size→waits ak u (u-1)=true
  still:∀ b,b < s→waits ak b t=false
  alloc:∀ b v,b < s→b≠t→ak[b]?=some v→FR v=true
  seq:Region.seqB .any ak (ak.size-s) s ((List.range ak.size).map (fun b=>Nat.blt b s)).toArray=true
def Up{ak:Array Oper}{s t:Nat}(c:Fa ak s t=true):aek ak s t:=by
  simp only [Fa,h6] at c
  obtain ⟨⟨⟨⟨⟨⟨G,J⟩,aZ⟩,bT⟩,c7⟩,CA⟩,gi⟩:=c
  have h9:s≤ak.size:=kc J
  have d_:∀ b,b < s→∃ v y,ak[b]?=some v∧v.dst=some y∧(v.after.all (fun r=>!Region.binds .any r || Nat.blt r.on b))=true∧(∀ k n,k < s→k≠b→ak[k]?=some n→n.dst≠some y)∧y∉v.looksAt ak ∧
      ∀ u∈v.looksAt ak,∀ k n,k < s→ak[k]?=some n→n.dst=some u→waits ak b k=true:=fun b ac=>by
    have dL:=rj.1 aZ b (kd.2 ac)
    cases bw:ak[b]? with
    | none=>rw [bw] at dL;simp at dL
    | some v =>
      rw [bw] at dL
      simp only [h6] at dL
      obtain ⟨h2,hN⟩:=dL
      cases ao:v.dst with
      | none=>rw [ao] at hN;simp at hN
      | some y =>
        rw [ao] at hN
        simp only [h6] at hN
        obtain ⟨⟨lR,nc⟩,qn⟩:=hN
        refine ⟨v,y,rfl,ao,h2,fun k n ag ea ad=>?_,by simpa using nc,fun u bA k n ag ad vm=>?_⟩
        · have:=rj.1 lR k (kd.2 ag)
          rw [ad] at this
          simpa [ea] using this
        · have:=rj.1 (rj.1 qn u bA) k (kd.2 ag)
          rw [ad] at this
          simpa [vm] using this
  refine ⟨fun k v ay p bw Fb=>by
    have J:=Dw.1 G v (QX bw)
    simp [Fb] at J,h9,fun b ac k bU=>?_,fun b ac=>?_,fun aw b ac=>?_,fun u bA kp=>?_,fun b ac=>?_,fun b v ac ea bw=>?_,gi⟩
  · obtain ⟨v,y,bw,_,h2,_⟩:=d_ b ac
    unfold waits at bU
    rw [bw] at bU
    obtain ⟨r,aC,av⟩:=QO.1 bU
    simp only [h6,beq_iff_eq] at av
    have:=Dw.1 h2 r aC
    rw [av.1] at this
    have hN:r.on < b:=by simpa using this
    omega
  · obtain ⟨v,y,dL,h2,_,hN⟩:=d_ b ac
    exact ⟨v,y,dL,h2,hN⟩
  · have dL:=rj.1 bT b (kd.2 ac)
    have ea:(s == ak.size)=false:=by simpa using Nat.ne_of_lt aw
    rw [ea,Q5] at dL
    obtain ⟨k,ag,h2⟩:=vV.1 dL
    simp only [h6] at h2
    have hN:b+1≤k:=kc h2.1
    exact ⟨k,hN,by have:=kd.1 ag;omega,h2.2⟩
  · have dL:=rj.1 c7 u (kd.2 kp)
    have ea:Nat.ble u s=false:=by
      cases av:Nat.ble u s
      · rfl
      · have:=kc av;omega
    rw [ea] at dL
    simpa using dL
  · have dL:=rj.1 CA b (kd.2 ac)
    simp only [h6,uN] at dL
    exact dL.1
  · have dL:=rj.1 CA b (kd.2 ac)
    rw [bw] at dL
    simp only [h6] at dL
    simpa [ea] using dL.2
def vA{ak:Array Oper}{cv:Array Bool}{b k:Nat}(cs:b∈Region.ready .any ak cv)(bU:waits ak b k=true):cv.getD k false=true:=by
  obtain ⟨_,v,bw,fw⟩:=mem_ready.1 cs
  unfold waits at bU
  rw [bw] at bU
  obtain ⟨r,aC,av⟩:=QO.1 bU
  simp only [h6,beq_iff_eq] at av
  rw [←av.2]
  exact fw r aC av.1
def QB{ak:Array Oper}{cv:Array Bool}{b:Nat}{v:Oper}(bw:ak[b]?=some v)(bp:cv.getD b true=false)(c:∀ k,waits ak b k=true→cv.getD k false=true):b∈Region.ready .any ak cv :=
  mem_ready.2 ⟨bp,v,bw,fun r aC av=>c r.on (by
    unfold waits;rw [bw]
    exact QO.2 ⟨r,aC,by simp [av]⟩)⟩
structure Hp (i:cM) (ay:List Value) (aX:TypeId) (C:List aB) (ak:Array Oper) (s t ef:Nat) (af:List (Nat×Value)) (gF:Act) (cv:Array Bool) (l:Act) (j:World):Prop where
  dC:cl i.an i.bL C j
  size:cv.size=ak.size
  only:∀ u,s≤u→cv.getD u false=false
  x5:∀ b k,cv.getD b false=true→waits ak b k=true→cv.getD k false=true
  sa:l.tmps.size=gF.tmps.size
  defers:l.defers=gF.defers
  new:t < s→cv.getD t false=true→∃ L,l.tmps.getD ef undef=.n L∧cl i.an i.bL (ai L ay aX :: C) j
  x2:∀ b n,b≠t→af[b]?=some n→cv.getD b false=true→l.tmps.getD n.1 undef=n.2
  wC:∀ u,(∀ b n,af[b]?=some n→cv.getD b false=true→n.1≠u)→l.tmps.getD u undef=gF.tmps.getD u undef
def getD_tf{cv:Array Bool}{b:Nat}(ac:b < cv.size):cv.getD b true=cv.getD b false:=by
  rw [l6,l6,om ac];rfl
def Ns{cv:Array Bool}{b:Nat}(ac:b < cv.size):(cv.setIfInBounds b true).getD b false=true:=by
  rw [l6];simp [ac]
def VN{i:cM}{ok:i.bC}{ay:List Value}{aX:TypeId}{d:List eH}{D:bW}{C:List aB}{f:List Oper}{s t ef:Nat}(dP:Fa f.toArray s t=true)(bh:t < s→(f.toArray[t]?).bind (·.dst)=some ef){Y:bW→Prop}(ajR:t < s→∀ v,f.toArray[t]?=some v→Hg i ay aX v)(cF:∀ du,Y du→(s≤t→w i f.toArray (f.drop s) d du C)∧(t < s→∀ L,w i f.toArray (f.drop s) d ((ef,.n L) :: du) (ai L ay aX :: C)))(c:e0 i f.toArray Y C (f.take s) D){gF:Act}{an:World}(o':hH i.s gF D)(nh:cl i.an i.bL C an) :
    wpAny i.o .any f.toArray (i.cz d) f.toArray.size (Array.replicate f.toArray.size false) gF an:=by
  have fO:=Up dP
  obtain ⟨af,gI,Vk,yw⟩:=VO c
  have aw:s≤f.length:=by simpa using fO.le
  have OB:af.length=s:=by rw [gI,ib];omega
  have pe:∀ b,b < s→∃ v n,f.toArray[b]?=some v∧af[b]?=some n∧v.dst=some n.1∧Nat.blt n.1 i.s=true∧(xM i (pre (af.take b) D) C f.toArray v n.2∨FR v=false):=fun b ac=>by
    obtain ⟨v,y,bw,_⟩:=fO.head b ac
    have ad:af[b]?=some af[b]:=et E
    have uh:(f.take s)[b]?=some v:=by rw [k6,ee ac];simpa using bw
    exact ⟨v,af[b],bw,ad,yw b _ v ad uh⟩
  have N2:∀ n∈af,Nat.blt n.1 i.s=true:=fun n ad=>by
    obtain ⟨b,ac⟩:=kw.1 ad
    obtain ⟨v,A,_,a6,_,av,_⟩:=pe b (by have:=(dD.1 ac).1;omega)
    rw [ac] at a6;cases a6;exact av
  have ni:∀ n∈af,n.1 < gF.tmps.size:=fun n ad=>by rw [o'.size];exact kc (N2 n ad)
  have IM:∀ (b k:Nat) (n A:Nat×Value),af[b]?=some n→af[k]?=some A→b≠k→n.1≠A.1:=fun b k n A ac ag ea aC=>by
    have cN:b < s:=by have:=(dD.1 ac).1;omega
    have pc:k < s:=by have:=(dD.1 ag).1;omega
    obtain ⟨v,ks,bw,AD,ao,_⟩:=pe b cN
    obtain ⟨jo,ig,uh,Fv,lT,_⟩:=pe k pc
    rw [ac] at AD;cases AD;rw [ag] at Fv;cases Fv
    obtain ⟨mO,Ub,qs,lx,CN,_⟩:=fO.head b cN
    rw [bw] at qs;cases qs;rw [ao] at lx;cases lx
    exact CN k jo pc (K_ ea) uh (by rw [lT,aC])
  -- a head that is ready comes to its value,and the invariant goes on
  have step:∀ b,b < s→∀ cv l j,Hp i ay aX C f.toArray s t ef af gF cv l j→b∈Region.ready .any f.toArray cv→∀ bN:Act→World→Prop,
      (∀ jE bQ,Hp i ay aX C f.toArray s t ef af gF (cv.setIfInBounds b true) jE bQ→bN jE bQ)→wpOp i.o f.toArray (i.cz d) b bN l j:=by
    intro b ac cv l j cZ cs bN dj
    obtain ⟨v,n,bw,ad,ao,av,AC⟩:=pe b ac
    obtain ⟨mO,Ub,qs,lx,CN,aAz,Fl⟩:=fO.head b ac
    rw [bw] at qs;cases qs;rw [ao] at lx;cases lx
    have rT:b < cv.size:=by rw [cZ.size];have:=fO.le;omega
    have CO:n.1 < l.tmps.size:=by rw [cZ.sa];exact ni n (eF ad)
    have ob:∀ k,(cv.setIfInBounds b true).getD k false=true↔(k=b∨cv.getD k false=true):=fun k=>by
      exact ab8
    have Wf:∀ m bQ,cl i.an i.bL C bQ→(b≠t→m=n.2)→(t < s→(cv.setIfInBounds b true).getD t false=true→∃ L,(l.put v.dst m).tmps.getD ef undef=.n L∧cl i.an i.bL (ai L ay aX :: C) bQ)→bN (l.put v.dst m) bQ:=fun m bQ eY ba pd=>dj _ _ (by
      rw [ao] at pd ⊢
      refine ⟨eY,by simpa using cZ.size,fun u bA=>?_,fun k eM ag bU=>?_,by rw [Ga];exact cZ.sa,cZ.defers,pd,fun k A IR ag a6=>?_,fun u bA=>?_⟩
      · rw [getD_set_ne false E];exact cZ.only u bA
      · rw [ob] at ag ⊢
        rcases ag with rfl|ag
        · exact .inr (vA cs bU)
        · exact .inr (cZ.x5 k eM ag bU)
      · rw [vy _ _ _ _ CO]
        by_cases r:k=b
        · subst r;rw [ad] at ag;cases ag;rw [ee rfl];exact ba IR
        · rw [be (IM b k n A ad ag (K_ r))]
          exact cZ.x2 k A IR ag (((ob k).1 a6).resolve_left r)
      · rw [vy _ _ _ _ CO,be (bA b n ad ((ob b).2 (.inl rfl)))]
        exact cZ.wC u (fun k A ag a6=>bA k A ag ((ob k).2 (.inr a6))))
    by_cases wS:b=t
    · subst wS
      have CA:=ajR ac v bw
      have Al:n.1=ef:=by have:=bh ac;rw [bw] at this;simpa [ao] using this
      unfold wpOp
      simp only [bw]
      rw [ee (by simp [Region.wanted,CA.guard])]
      refine .inl ?_
      unfold Oper.wp
      rw [CA.run]
      refine Wf _ _ (cZ.dC.J4 (Cq j _)) (fun c=>absurd rfl c) fun _ _=>⟨_,?_,cZ.dC.alloc _⟩
      rw [ao,vy _ _ _ _ CO,ee Al]
    have AC:=AC.resolve_right (by rw [fO.alloc b v ac wS bw];simp)
    have alw:=PN (af:=af.take b) (fun A a6=>N2 A (ze a6)) o'
    have Wo:∀ u∈v.looksAt f.toArray,l.tmps.getD u undef=(pm (af.take b) gF).tmps.getD u undef:=fun u bA=>by
      by_cases pQ:∃ (k:Nat) (A:Nat×Value),af[k]?=some A∧A.1=u
      · obtain ⟨k,A,ag,rfl⟩:=pQ
        have pc:k < s:=by have:=(dD.1 ag).1;omega
        obtain ⟨arc,ig,alJ,Fv,akp,_⟩:=pe k pc
        rw [ag] at Fv;cases Fv
        have bU:=Fl A.1 bA k arc pc alJ akp
        have V4:=fO.o3 b ac k bU
        rw [cZ.x2 k A (fun r=>by rw [r,fO.still b ac] at bU;cases bU) ag (vA cs bU),PM (af.take b) gF k A (fun Z cs=>ni Z (ze cs)) (fun t Z bh ea=>by
          rw [k6] at bh
          split at bh
          · exact IM t k Z A bh ag ea
          · cases bh) (by rw [k6,ee V4];exact ag)]
      · have dy:∀ (k:Nat) (A:Nat×Value),af[k]?=some A→A.1≠u:=fun k A ag aC=>pQ ⟨k,A,ag,aC⟩
        rw [cZ.wC u (fun k A ag _=>dy k A ag),J1 (af.take b) gF u (fun Z cs=>ni Z (ze cs)) (fun Z cs=>by
          obtain ⟨t,bh⟩:=kw.1 (ze cs)
          exact dy t Z bh)]
    have VG:l.tmps.size=(pm (af.take b) gF).tmps.size:=by rw [X9,cZ.sa]
    have VY:∀ u∈v.looksAt f.toArray,l.tmps[u]?=(pm (af.take b) gF).tmps[u]?:=fun u bA=>by
      have G:=Wo u bA
      rw [l6,l6] at G
      by_cases ca:u < l.tmps.size
      · have Ot:u < (pm (af.take b) gF).tmps.size:=VG ▸ ca
        rw [om ca,om Ot] at G ⊢
        exact dz some G
      · rw [BA (QU ca),BA (VG ▸ QU ca)]
    have Aq:execOp l.eval v=execOp (pm (af.take b) gF).eval v:=execOp_congr v (fun ay p=>fO.Jy b v ay p bw) (fun e Q=>by
      cases e with
      | tmp u=>exact Wo u (oS _ (vT.2 ⟨.tmp u,by simpa using Q,rfl⟩))
      | _=>rfl)
    have I4:Region.wanted v (yielded f.toArray l.tmps)=Region.wanted v (yielded f.toArray (pm (af.take b) gF).tmps):=by
      unfold Region.wanted
      cases bq:v.guard with
      | none=>rfl
      | some Nv =>
        obtain ⟨L,db⟩:=Nv
        have:yielded f.toArray l.tmps L=yielded f.toArray (pm (af.take b) gF).tmps L:=by
          unfold yielded
          cases bA:(f.toArray[L]?).bind (·.dst) with
          | none=>rfl
          | some u =>
            exact adR
        simp only [this]
    have vj:∀ bQ,Frame j [] bQ→bN (l.put v.dst n.2) bQ:=fun bQ bc=>Wf _ _ (cZ.dC.J4 bc) (fun _=>rfl) fun rV AB=>by
      obtain ⟨L,G,J⟩:=cZ.new rV (((ob t).1 AB).resolve_left (K_ wS))
      obtain ⟨eK,fR,Oz,vl,Al,_⟩:=pe t rV
      have N9:fR.1=ef:=by have:=bh rV;rw [Oz] at this;simpa [Al] using this
      refine ⟨L,?_,J.J4 bc⟩
      rw [ao,vy _ _ _ _ CO,be (fun r=>IM b t n fR ad vl wS (by rw [r,N9])),G]
    unfold wpOp
    simp only [bw]
    rcases AC ok _ j alw cZ.dC with ⟨gk,oH⟩|⟨gk,ba⟩
    · rw [ee Rq]
      refine .inl ?_
      unfold Oper.wp
      rw [Aq]
      rcases oH with oH|⟨z,args,oH,mI⟩
      · rw [oH];exact vj j (Frame.refl j _)
      · rw [oH]
        refine aaA mI ?_
        rintro r bQ ⟨rfl,eY⟩
        exact vj bQ eY
    · rw [be abq,←ba]
      exact vj j (Frame.refl j _)
  -- by the number of heads that are still to come
  have Pb:∀ c cv l j,Hp i ay aX C f.toArray s t ef af gF cv l j→((List.range s).filter fun b=>!cv.getD b false).length=c→wpAny i.o .any f.toArray (i.cz d) (f.toArray.size-s+c) cv l j:=by
    intro c
    induction c with
    | zero =>
      intro cv l j cZ d_
      have fw:∀ b,b < s→cv.getD b false=true:=fun b ac=>by
        have G:(List.range s).filter (fun b=>!cv.getD b false)=[]:=By d_
        have J:=Dz.1 G b (kd.2 ac)
        simpa using J
      have alx:cv=((List.range f.toArray.size).map (fun b=>Nat.blt b s)).toArray:=by
        apply Array.ext
        · simp [cZ.size]
        · intro b G J
          have aA:cv.getD b false=cv[b]:=by rw [l6,om G];rfl
          rw [←aA]
          simp only [aaE,List.getElem_map,List.getElem_range]
          rcases mR b s with ca|Fh
          · rw [fw b ca];exact (QW ca).symm
          · rw [cZ.only b Fh]
            cases av:Nat.blt b s
            · rfl
            · have:=kc av;omega
      have VB:∀ u,(∀ b n,af[b]?=some n→b=t→n.1≠u)→l.tmps.getD u undef=(pm af gF).tmps.getD u undef:=fun u alG=>by
        by_cases pQ:∃ (k:Nat) (A:Nat×Value),af[k]?=some A∧A.1=u
        · obtain ⟨k,A,ag,rfl⟩:=pQ
          rw [cZ.x2 k A (fun r=>alG k A ag r rfl) ag (fw k Lm),PM af gF k A ni (fun t Z bh ea=>IM t k Z A bh ag ea) ag]
        · have dy:∀ (k:Nat) (A:Nat×Value),af[k]?=some A→A.1≠u:=fun k A ag aC=>pQ ⟨k,A,ag,aC⟩
          rw [cZ.wC u (fun k A ag _=>dy k A ag),J1 af gF u ni (fun Z cs=>by
            obtain ⟨t,bh⟩:=kw.1 cs
            exact dy t Z bh)]
      have IP:=PN N2 o'
      have AJ:wpList i.o f.toArray (i.cz d) (f.drop s) l j:=by
        rcases mR t s with rV|rV
        · obtain ⟨L,G,J⟩:=cZ.new rV (fw t rV)
          obtain ⟨eK,fR,Oz,vl,Al,aAh,_⟩:=pe t rV
          have N9:fR.1=ef:=by have:=bh rV;rw [Oz] at this;simpa [Al] using this
          refine (cF _ Vk).2 rV L ok l j ⟨by rw [cZ.sa];exact o'.size,by rw [cZ.defers];exact o'.defers,fun u m bA=>?_⟩ J
          rw [FM] at bA
          by_cases r:ef=u
          · rw [ee r] at bA;cases bA;rw [←r];exact G
          · rw [be r] at bA
            rw [VB u (fun b n ac wS=>by subst wS;rw [vl] at ac;cases ac;rw [N9];exact r)]
            exact IP.cC u m bA
        · refine (cF _ Vk).1 rV ok l j ⟨by rw [cZ.sa];exact o'.size,by rw [cZ.defers];exact o'.defers,fun u m bA=>?_⟩ cZ.dC
          rw [VB u (fun b n ac wS=>by have:=(dD.1 ac).1;omega)]
          exact IP.cC u m bA
      have VR:(f.drop s).length=f.toArray.size-s:=by simp
      have:=wpAny_of_seq (md:=.any) (ops:=f.toArray) (f.drop s) s cv l j (fun k=>by simp [xx]) (by rw [VR,alx];exact fO.seq) AJ
      rw [VR] at this
      simpa using this
    | succ c b6 =>
      intro cv l j cZ d_
      have akI:∀ b∈Region.ready .any f.toArray cv,b < s:=fun b cs=>by
        rcases mR b s with ca|Fh
        · exact ca
        · exfalso
          obtain ⟨bp,v,bw,_⟩:=mem_ready.1 cs
          have V2:b < f.toArray.size:=(qE.1 bw).1
          have cN:b=s:=by
            rcases Nat.eq_or_lt_of_le Fh with r|Fi
            · exact r.symm
            · have G:=vA cs (fO.chain b Fi V2)
              rw [cZ.only (b-1) E] at G
              cases G
          subst cN
          have fw:∀ t k,b-k=t→k < b→cv.getD k false=true:=by
            intro t
            induction t using Nat.strongRecOn with
            | _ t OP =>
              intro k bh ag
              obtain ⟨eM,G,J,aA⟩:=fO.avb V2 k ag
              rcases Nat.eq_or_lt_of_le J with r|ca
              · subst r;exact vA cs aA
              · exact cZ.x5 eM k (OP (b-eM) E eM rfl ca) aA
          have G:(List.range b).filter (fun b=>!cv.getD b false)=[]:=Dz.2 fun k ag=>by
            rw [fw (b-k) k rfl (kd.1 ag)];simp
          rw [G] at d_
          simp at d_
      refine ⟨fun bB=>?_,fun b cs=>?_⟩
      · exfalso
        -- the least head that is not listed is ready
        have pQ:∃ b,b < s∧cv.getD b false=false:=by
          have G:(List.range s).filter (fun b=>!cv.getD b false)≠[]:=fun G=>by rw [G] at d_;simp at d_
          exact adQ
        have uq:∀ t b,b≤t→b < s→cv.getD b false=false→∃ k,k∈Region.ready .any f.toArray cv:=by
          intro t
          induction t with
          | zero =>
            intro b wS cN bp
            obtain ⟨v,_,bw,_⟩:=fO.head b cN
            exact ⟨b,QB bw (by rw [getD_tf Lj];exact bp) fun k bU=>by have:=fO.o3 b cN k bU;omega⟩
          | succ t OP =>
            intro b wS cN bp
            by_cases bU:∃ k,waits f.toArray b k=true∧cv.getD k false=false
            · obtain ⟨k,bU,ag⟩:=bU
              have:=fO.o3 b cN k bU
              exact OP k E E ag
            · obtain ⟨v,_,bw,_⟩:=fO.head b cN
              refine ⟨b,QB bw (by rw [getD_tf Lj];exact bp) fun k OL=>?_⟩
              cases av:cv.getD k false
              · exact absurd ⟨k,OL,av⟩ bU
              · rfl
        obtain ⟨b,ac,bp⟩:=pQ
        obtain ⟨k,ag⟩:=uq b b (oQ _) ac bp
        rw [bB] at ag;cases ag
      · have cN:=akI b cs
        have bp:cv.getD b false=false:=by
          rw [←getD_tf Lj]
          exact (mem_ready.1 cs).1
        refine step b cN cv l j cZ cs _ fun jE bQ ael=>b6 _ jE bQ ael ?_
        have aS:=Ua (tp (n:=s)) (n:=fun b=>!cv.getD b false) (ks:=fun k=>!(cv.setIfInBounds b true).getD k false) (kd.2 cN) (by simp [bp]) (fun k ag=>by
          by_cases r:k=b
          · subst r;rw [Ns Lj];simp
          · rw [getD_set_ne false (K_ r)];simp [r])
        omega
  have aem:Hp i ay aX C f.toArray s t ef af gF (Array.replicate f.toArray.size false) gF an:=by
    have bc:∀ k,(Array.replicate f.toArray.size false).getD k false=false:=fun k=>getD_replicate_false _ k
    exact ⟨nh,by simp,fun u _=>bc u,fun b k ac=>DK,rfl,rfl,fun _ ac=>DK,fun b n _ _ ac=>DK,fun u _=>rfl⟩
  have:=Pb s _ gF an aem (by
    have G:(List.range s).filter (fun b=>!(Array.replicate f.toArray.size false).getD b false)=List.range s:=rk.2 fun k _=>by rw [getD_replicate_false];rfl
    rw [G,DB])
  have aAA:=fO.le
  rwa [show f.toArray.size-s+s=f.toArray.size from by omega] at this
section
variable {i:cM} {d:List eH} {D:bW} {C:List aB} {ak:Array Oper} {v:Op} {aX:TypeId} {y:Nat} {pos:String} {cT:Array Edge} {m:Value} {bv:List Oper} {Y:bW→Prop}
def K.hW{id:Nat}{f:List Oper}(s:Nat)(bh:i.o.follows .mixedOrders=true)(dP:Fa f.toArray s f.length=true)(c:e0 i f.toArray (fun du=>w i f.toArray (f.drop s) d du C) C (f.take s) D) :
    K i (.code (.region id f.toArray true) :: d) D C:=fun ok _ _ V W=>wp_region_any bh (by
  have h9:=(Up dP).le
  exact VN (ok:=ok) (ay:=[]) (aX:=0) (ef:=0) dP (fun c=>by simp at h9;omega) (fun c=>by simp at h9;omega) (fun _ c=>⟨fun _=>c,fun gH=>by simp at h9;omega⟩) c V W.zS)
def K.sB{id:Nat}{f:List Oper}(s t ef:Nat){aG:Value}{Gw:TypeId}{ks:String}{agk:Array Edge}{fT:TypeId}(ay:List Value)(bh:i.o.follows .mixedOrders=true)(dP:Fa f.toArray s t=true)(rV:Nat.blt t s=true)
    (S:f[t]?=some ⟨some ef,.alloc fT,Gw,ks,agk,none⟩) (ce:∀ j,(zeroValue fT).run i.o j=.ok aG j) (aS:aG.cells=ay.toArray)
    (c:e0 i f.toArray (fun du=>∀ L,w i f.toArray (f.drop s) d ((ef,.n L) :: du) (ai L ay fT :: C)) C (f.take s) D) :
    K i (.code (.region id f.toArray true) :: d) D C:=fun ok _ _ V W=>wp_region_any bh (by
  have aAv:t < s:=kc rV
  refine VN (ok:=ok) (ay:=ay) (aX:=fT) (ef:=ef) dP (fun _=>by simp [S]) (fun _ v bw=>?_) (fun _ c=>⟨fun gH=>by omega,fun _=>c⟩) c V W.zS
  rw [Bs,S] at bw
  cases bw
  exact ⟨rfl,rfl,fun aT j=>by simp [execOp,Instr.alloc,ce,newVar,aS,A_]⟩)
def e0.new{fT:TypeId}(ao:Nat.blt y i.s=true)(c:e0 i ak Y C bv ((y,undef) :: D)):e0 i ak Y C (⟨some y,.alloc fT,aX,pos,cT,none⟩ :: bv) D:=⟨y,undef,rfl,ao,.inr rfl,c⟩
def e0.A(a6:aV i D C v aX m)(ao:Nat.blt y i.s=true)(c:e0 i ak Y C bv ((y,m) :: D)):e0 i ak Y C (⟨some y,v,aX,pos,cT,none⟩ :: bv) D :=
  ⟨y,m,rfl,ao,.inl fun ok l j V W=>.inl ⟨by simp [Region.wanted],.inl (a6 ok l j V W _ _ _ _)⟩,c⟩
def e0.n(a6:U i D v aX m)(ao:Nat.blt y i.s=true)(c:e0 i ak Y C bv ((y,m) :: D)):e0 i ak Y C (⟨some y,v,aX,pos,cT,none⟩ :: bv) D:=e0.A a6.dg ao c
def e0.eg{k u:Nat}{db p:Bool}(ag:(ak[k]?).bind (·.dst)=some u)(bA:gx D u=some (.bool p))(av:p=db)(aw:Nat.blt u i.s=true)(a6:aV i D C v aX m)(ao:Nat.blt y i.s=true)
    (c:e0 i ak Y C bv ((y,m) :: D)):e0 i ak Y C (⟨some y,v,aX,pos,cT,some (k,db)⟩ :: bv) D :=
  ⟨y,m,rfl,ao,.inl fun ok l j V W=>.inl ⟨xl (k:=k) (u:=u) (db:=db) V rfl ag (av ▸ bA) aw,.inl (a6 ok l j V W _ _ _ _)⟩,c⟩
def e0.iI{k u:Nat}{db:Bool}{aG:Value}(ag:(ak[k]?).bind (·.dst)=some u)(bA:gx D u=some aG)(bp:o4 aG≠some db)(aw:Nat.blt u i.s=true)(ao:Nat.blt y i.s=true)
    (c:e0 i ak Y C bv ((y,undef) :: D)):e0 i ak Y C (⟨some y,v,aX,pos,cT,some (k,db)⟩ :: bv) D :=
  ⟨y,undef,rfl,ao,.inl fun _ _ _ V _=>.inr ⟨y8 (k:=k) (u:=u) (db:=db) V rfl ag bA bp aw,rfl⟩,c⟩
def e0.nil{du:bW}(c:Y du):e0 i ak Y C [] du:=c
def e0.call{z:FuncId}{e:Operand}{dq:List Operand}{eW:Array TypeId}{ae fP:List Value}{en:List aB}{post:Value→List aB→Prop}(mI:∀ args j,(callFunc z args).run i.o j=.ok (.enter z args) j)(Q:aT D e=some (.func (.func z) #[] fP.toArray))
    (ly:dq.map (aT D)=ae.map some) (bA:M i.o z (ae++fP).toArray en [] post) (Ft:∀ aG B,post aG B→aG=m∧B=[]) (fM:eI i C [] en) (ao:Nat.blt y i.s=true) (c:e0 i ak Y C bv ((y,m) :: D)) :
    e0 i ak Y C (⟨some y,.call { callee:=.value e,args:=dq.toArray,argTypes:=eW },aX,pos,cT,none⟩ :: bv) D :=
  ⟨y,m,rfl,ao,.inl fun ok l j V W=>.inl ⟨by simp [Region.wanted],.inr ⟨z,(ae++fP).toArray,by
      have G:dq.map l.eval=ae:=V.dn ly
      simp [execOp,resolve,Deferred.ofValue,invoke,V.aT Q,G,mI],by
      refine (bA j (fM ok j W) ⟨Frame.refl j _,by simp,by simp,by simp⟩).mono ?_
      rintro r bQ ⟨aG,B,rfl,ad,eY⟩
      obtain ⟨rfl,rfl⟩:=Ft aG B ad
      exact ⟨rfl,eY.aE⟩⟩⟩,c⟩
end
end Go.LK
namespace Go.LK
open Go Go.RowKit
def Ig(y:Option Nat)(m:Value)(D:bW):bW:=match y with|some y=>(y,m) :: D|none=>D
def aen(i:cM)(D:bW)(C:List aB)(ak:Array Oper)(v:Oper)(ah:Value→List aB→Prop):Prop :=
  i.bC→∀ l j,hH i.s l D→cl i.an i.bL C j →
    (Region.wanted v (yielded ak l.tmps)=true∧v.wp i.o l j (fun jE bQ=>∃ m B,jE=l.put v.dst m∧ah m B∧cl i.an i.bL B bQ) (fun _ _ _=>False)) ∨
    (Region.wanted v (yielded ak l.tmps)=false∧ah undef C)
def tE(i:cM)(C bN:List aB):Prop:=∀ j,cl i.an i.bL C j→cl i.an i.bL bN j
def vx(v:Oper):Bool:=match v.op,v.guard with
  | .move _,none=>true
  | .assign _,none=>true
  | .extract _ _,none=>true
  | .binOp ..,none=>true
  | .unOp ..,none=>true
  | .fieldAddr ..,none=>true
  | .nilCheck _,none=>true
  | _,_=>false
def X7(ak:Array Oper)(k:Nat):Bool:=match ak[k]? with
  | some v=>vx v
  | none=>false
def zP(ak:Array Oper)(b:Nat)(c6:List Nat):Bool:=c6.all fun k=>(waits ak b k || c6.any fun t=>waits ak b t&&(waits ak t k || c6.any fun A=>waits ak t A&&waits ak A k)) || X7 ak k
def aL(i:cM)(ak:Array Oper)(Y:bW→List aB→Prop):List Nat→List (Nat×Bool)→bW→List aB→List aB→Prop
  | _,[],D,_,C=>Y D C
  | c6,(b,false) :: bv,D,bN,C=>∃ v y m,ak[b]?=some v∧v.dst=some y∧Nat.blt y i.s=true∧xM i D bN ak v m∧(vx v=true→xM i D [] ak v m)∧aL i ak Y (b :: c6) bv ((y,m) :: D) bN C
  | c6,(b,true) :: bv,D,bN,C=>∃ v,ak[b]?=some v∧(∀ y,v.dst=some y→Nat.blt y i.s=true) ∧
      aen i D C ak v fun m B=>∃ hs,tE i B hs∧(zP ak b c6=true∨tE i hs bN)∧aL i ak Y (b :: c6) bv (Ig v.dst m D) hs B
def C'(ak:Array Oper):List Nat→List Nat→List (Nat×Bool)→Bool
  | _,_,[]=>true
  | c6,dm,(b,p) :: bv =>
    (match ak[b]? with|none=>false|some v=>v.after.all fun r=>!Region.binds .any r || c6.contains r.on)&&!c6.contains b &&
    (dm.isEmpty || dm.any fun k=>waits ak b k)&&C' ak (b :: c6) (bif p then [b] else bif dm.isEmpty then [] else b :: dm) bv
def ah4(ak:Array Oper):Bool :=
  (List.range ak.size).all fun b=>(List.range ak.size).all fun k=>b == k || match ak[b]?,ak[k]? with
    | some v,some n=>match n.dst with
      | some u=>v.dst != some u&&(!(v.looksAt ak).contains u || waits ak b k || waits ak k b)
      | none=>true
    | _,_=>false
def w4(ak:Array Oper)(fo:List (Nat×Bool)):Bool :=
  (ak.all fun v=>match v.op with|.select ..=>false|_=>true)&&(List.range ak.size).all (fun b=>(fo.map (·.1)).contains b)&&C' ak [] [] fo&&ah4 ak
def XP{ak:Array Oper}:∀ {bv:List (Nat×Bool)} {c6 dm:List Nat},C' ak c6 dm bv=true →
    (∀ ep e fu,bv=ep++e :: fu→∀ k,waits ak e.1 k=true→k∈c6∨k∈ep.map (·.1))∧((bv.map (·.1)).Nodup∧∀ e∈bv,e.1∉c6) ∧
    (dm≠[]→∀ ep e fu,bv=ep++e :: fu→∃ k,waits ak e.1 k=true∧(k∈dm∨k∈ep.map (·.1))) ∧
    (∀ ep f fu e ux,bv=ep++(f,true) :: (fu++e :: ux)→∃ k,waits ak e.1 k=true∧(k=f∨k∈fu.map (·.1)))
  | [],_,_,_=>⟨fun ep e fu c=>by simp at c,⟨by simp,by simp⟩,fun _ ep e fu c=>by simp at c,fun ep f fu e ux c=>by simp at c⟩
  | (b,p) :: bv,c6,dm,c=>by
    simp only [C',h6] at c
    obtain ⟨⟨⟨G,J⟩,aA⟩,aZ⟩:=c
    obtain ⟨anl,⟨anm,Wy⟩,Wz,id⟩:=XP aZ
    refine ⟨fun ep e fu a6 k bU=>?_,⟨?_,fun e Q=>?_⟩,fun ea ep e fu a6=>?_,fun ep f fu e ux a6=>?_⟩
    · cases ep with
      | nil =>
        simp at a6
        obtain ⟨rfl,rfl⟩:=a6
        refine .inl ?_
        unfold waits at bU
        cases bw:ak[b]? with
        | none=>rw [bw] at G;simp at G
        | some v =>
          simp only [bw] at bU G
          obtain ⟨r,aC,av⟩:=QO.1 bU
          simp only [h6,beq_iff_eq] at av
          have:=Dw.1 G r aC
          rw [av.1] at this
          rw [←av.2]
          simpa using this
      | cons F ep =>
        simp at a6
        obtain ⟨rfl,rfl⟩:=a6
        rcases anl ep e fu rfl k bU with bT|bT
        · rcases fb.1 bT with rfl|bT
          · exact .inr oU
          · exact .inl bT
        · exact .inr (gS _ bT)
    · simp only [kO,kP]
      refine ⟨fun ac=>?_,anm⟩
      obtain ⟨e,Q,vq⟩:=bx.1 ac
      exact Wy e Q (by rw [vq];simp)
    · rcases fb.1 Q with rfl|Q
      · simpa using J
      · exact fun W=>Wy e Q (gS _ W)
    · cases ep with
      | nil =>
        simp at a6
        obtain ⟨rfl,rfl⟩:=a6
        have CM:dm.isEmpty=false:=by cases dm<;>simp_all
        rw [CM,Q5] at aA
        obtain ⟨k,ag,bU⟩:=vV.1 aA
        exact ⟨k,bU,.inl ag⟩
      | cons F ep =>
        simp at a6
        obtain ⟨rfl,rfl⟩:=a6
        have CM:dm.isEmpty=false:=by cases dm<;>simp_all
        obtain ⟨k,bU,ag⟩:=Wz (by cases p<;>simp [CM]) ep e fu rfl
        refine ⟨k,bU,?_⟩
        rcases ag with ag|ag
        · cases p
          · simp [CM] at ag
            rcases ag with rfl|ag
            · exact .inr oU
            · exact .inl ag
          · simp at ag;subst ag;exact .inr oU
        · exact .inr (gS _ ag)
    · cases ep with
      | nil =>
        simp at a6
        obtain ⟨⟨rfl,rfl⟩,rfl⟩:=a6
        obtain ⟨k,bU,ag⟩:=Wz oU fu e ux rfl
        refine ⟨k,bU,?_⟩
        rcases ag with ag|ag
        · simp at ag;exact .inl ag
        · exact .inr ag
      | cons F ep =>
        simp at a6
        obtain ⟨rfl,rfl⟩:=a6
        exact id ep f fu e ux oU
def XR{ak:Array Oper}:∀ {bv:List (Nat×Bool)} {c6 dm:List Nat},C' ak c6 dm bv=true→∀ e∈bv,e.1 < ak.size
  | [],_,_,_,e,Q=>by simp at Q
  | (b,p) :: bv,c6,dm,c,e,Q=>by
    simp only [C',h6] at c
    rcases fb.1 Q with rfl|Q
    · cases bw:ak[b]? with
      | none=>simp [bw] at c
      | some v=>exact (qE.1 bw).1
    · exact XR c.2 e Q
def apF{ak:Array Oper}{fo:List (Nat×Bool)}(c:w4 ak fo=true):∀ e∈fo,e.1 < ak.size:=by
  simp only [w4,h6] at c
  exact XR c.1.2
structure Mk (ak:Array Oper) (fo:List (Nat×Bool)):Prop where
  Jy:∀ (k:Nat) (v:Oper) ay p,ak[k]?=some v→v.op≠.select ay p
  all:∀ b,b < ak.size→b∈fo.map (·.1)
  o3:∀ ep e fu,fo=ep++e :: fu→∀ k,waits ak e.1 k=true→k∈ep.map (·.1)
  gX:(fo.map (·.1)).Nodup
  dm:∀ ep f fu e ux,fo=ep++(f,true) :: (fu++e :: ux)→∃ k,waits ak e.1 k=true∧(k=f∨k∈fu.map (·.1))
  EG:∀ b k v n u,b≠k→ak[b]?=some v→ak[k]?=some n→n.dst=some u→v.dst≠some u∧(u∈v.looksAt ak→waits ak b k=true∨waits ak k b=true)
def apG{ak:Array Oper}{fo:List (Nat×Bool)}(c:w4 ak fo=true):Mk ak fo:=by
  simp only [w4,h6] at c
  obtain ⟨⟨⟨G,J⟩,aA⟩,aZ⟩:=c
  obtain ⟨V,⟨av,_⟩,_,ao⟩:=XP aA
  refine ⟨fun k v ay p bw Fb=>by
    have J:=Dw.1 G v (QX bw)
    simp [Fb] at J,fun b ac=>by simpa using rj.1 J b (kd.2 ac),fun ep e fu a6 k bU=>(V ep e fu a6 k bU).resolve_left oU,av,ao,fun b k v n u ea bw ad bA=>?_⟩
  have ac:b < ak.size:=(qE.1 bw).1
  have ag:k < ak.size:=(qE.1 ad).1
  have bT:=rj.1 (rj.1 aZ b (kd.2 ac)) k (kd.2 ag)
  have CM:(b == k)=false:=by simpa using ea
  rw [CM,Q5,bw,ad] at bT
  simp only [bA,h6,KR] at bT
  refine ⟨by simpa using bT.1,fun bh=>?_⟩
  rcases bT.2 with (c7|c7)|c7
  · simp [bh] at c7
  · exact .inl c7
  · exact .inr c7
structure no where
  b:Nat
  A:Bool
  v:Oper
  m:Value
  D:bW
  bN:List aB
def la:List no→Act→Act
  | [],l=>l
  | r :: a_,l=>la a_ (l.put r.v.dst r.m)
def J2(l:Act)(y:Option Nat)(m:Value):(l.put y m).tmps.size=l.tmps.size:=by cases y<;>simp [Act.put]
def De(l:Act)(y:Option Nat)(m:Value):(l.put y m).defers=l.defers:=by cases y<;>rfl
def F'(l:Act)(y:Option Nat)(m:Value)(u:Nat)(c:y≠some u):(l.put y m).tmps.getD u undef=l.tmps.getD u undef:=by
  cases y with
  | none=>rfl
  | some y =>
    have:y≠u:=fun r=>c (by rw [r])
    simp only [Act.put]
    rw [l6,l6,Dx this]
def HT:∀ (a_:List no) (l:Act),(la a_ l).tmps.size=l.tmps.size
  | [],_=>rfl
  | r :: a_,l=>by rw [la,HT a_,J2]
def HS:∀ (a_ aH:List no) (l:Act),la (a_++aH) l=la aH (la a_ l)
  | [],_,_=>rfl
  | r :: a_,aH,l=>by simp only [oo,la,HS a_]
def EA:∀ (a_:List no) (l:Act) (u:Nat),(∀ r∈a_,r.v.dst≠some u)→(la a_ l).tmps.getD u undef=l.tmps.getD u undef
  | [],_,_,_=>rfl
  | r :: a_,l,u,c=>by rw [la,EA a_ _ u (fun z bc=>c z (by simp [bc])),F' _ _ _ _ (c r oU)]
def Mw:∀ (a_:List no) (l:Act) (u:Nat) (m:Value),u < l.tmps.size→(∀ r∈a_,r.v.dst=some u→r.m=m)→(∃ r∈a_,r.v.dst=some u)→(la a_ l).tmps.getD u undef=m
  | [],_,_,_,_,_,c=>by obtain ⟨r,aC,_⟩:=c;simp at aC
  | r :: a_,l,u,m,bA,ba,c=>by
    by_cases J:∃ z∈a_,z.v.dst=some u
    · exact Mw a_ _ u m (by rw [J2];exact bA) (fun z bc=>ba z (by simp [bc])) J
    · obtain ⟨z,bc,qr⟩:=c
      rcases fb.1 bc with rfl|bc
      · rw [la,EA a_ _ u (fun L bq Fi=>J ⟨L,bq,Fi⟩),qr,vy _ _ _ _ bA,ee rfl]
        exact ba z oU qr
      · exact absurd ⟨z,bc,qr⟩ J
def Jw:∀ {a_:List no},(a_.map no.b).Nodup→∀ {r z:no},r∈a_→z∈a_→r.b=z.b→r=z
  | [],_,_,_,aC,_,_=>by simp at aC
  | L :: a_,c,r,z,aC,bc,ac=>by
    simp only [kO,kP] at c
    rcases fb.1 aC with G|G<;>rcases fb.1 bc with J|J
    · rw [G,J]
    · exact absurd (bx.2 ⟨z,J,by rw [←ac,G]⟩) c.1
    · exact absurd (bx.2 ⟨r,G,by rw [ac,J]⟩) c.1
    · exact Jw c.2 G J ac
def axe{o:Program}{v:Oper}{l p:Act}{j:World}{hs:Act→World→Prop}{cz:Exit→Act→World→Prop}{bo:Value→List aB→World→Prop}(Q:execOp l.eval v=execOp p.eval v)(ao:∀ y,v.dst=some y→y < p.tmps.size)
    (c:v.wp o p j (fun jE bQ=>∃ m B,jE=p.put v.dst m∧bo m B bQ) (fun _ _ _=>False)) (dj:∀ m B bQ,bo m B bQ→hs (l.put v.dst m) bQ):v.wp o l j hs cz:=by
  have key:∀ vN bQ,(∃ m B,p.put v.dst vN=p.put v.dst m∧bo m B bQ)→hs (l.put v.dst vN) bQ:=by
    exact adi
  unfold Oper.wp at c ⊢
  rw [Q]
  revert c
  generalize (execOp p.eval v).run o j=Z
  intro c
  unfold Oper.upon at c ⊢
  split at c
  · exact key _ _ c
  · exact key _ _ c
  · exfalso
    obtain ⟨m,B,aC,_⟩:=c
    have:=dz Act.defers aC
    rw [De,De] at this
    exact absurd (dz List.length this) oU
  · refine aaA c ?_
    intro r bQ gH
    cases r with
    | returned m=>exact key _ _ gH
    | panicked wE=>exact gH.elim
    | outgrown=>obtain ⟨_,_,bc⟩:=gH;exact bc.elim
  · exact Rows.mono c fun m bQ gH=>key _ _ gH
  · exact c.elim
  · exact c.elim
def W0{i:cM}{bN:List aB}{j:World}(c:cl i.an i.bL bN j):cl i.an i.bL [] j:=by simpa [LK.dB] using c.dB (bt:=[]) oU
def WZ{i:cM}{bN:List aB}{j:World}{p:Bool}(c:cl i.an i.bL bN j):cl i.an i.bL (if p=true then [] else bN) j:=by split;exact W0 c;exact c
def Pq{i:cM}{ak:Array Oper}{Y:bW→List aB→Prop}{bN C:List aB}:∀ {bv:List (Nat×Bool)} {c6:List Nat} {D:bW} {p:Act},aL i ak Y c6 bv D bN C→hH i.s p D→∃ (r8:List no) (vB:List (Nat×Bool)) (du:bW),
    bv=r8.map (fun r=>(r.b,!r.A))++vB∧(vB=[]∨∃ b Z,vB=(b,true) :: Z)∧aL i ak Y ((r8.map no.b).reverse++c6) vB du bN C∧hH i.s (la r8 p) du∧(∀ r∈r8,r.A=true) ∧
    ∀ eC r fp,r8=eC++r :: fp→ak[r.b]?=some r.v∧(∀ y,r.v.dst=some y→Nat.blt y i.s=true)∧hH i.s (la eC p) r.D∧xM i r.D r.bN ak r.v r.m∧r.bN=(if vx r.v=true then [] else bN)
  | [],_,D,p,c,av=>⟨[],[],D,rfl,.inl rfl,c,av,by simp,fun eC r fp ad=>by simp at ad⟩
  | (b,true) :: bv,_,D,p,c,av=>⟨[],(b,true) :: bv,D,rfl,.inr ⟨b,bv,rfl⟩,c,av,by simp,fun eC r fp ad=>by simp at ad⟩
  | (b,false) :: bv,c6,D,p,c,av=>by
    obtain ⟨v,y,m,bw,ao,Am,alN,alO,bh⟩:=c
    have AC:xM i D (if vx v=true then [] else bN) ak v m:=by split;exact alO ‹_›;exact alN
    have E6:hH i.s (p.put v.dst m) ((y,m) :: D):=by rw [ao];exact av.put m Am
    obtain ⟨r8,vB,du,G,J,aA,aZ,bT,c7⟩:=Pq bh E6
    refine ⟨⟨b,true,v,m,D,if vx v=true then [] else bN⟩ :: r8,vB,du,by simp [G],J,by simpa using aA,aZ,fun r aC=>?_,fun eC r fp ad=>?_⟩
    · rcases fb.1 aC with rfl|aC
      · rfl
      · exact bT r aC
    · cases eC with
      | nil =>
        simp at ad
        obtain ⟨rfl,rfl⟩:=ad
        exact ⟨bw,fun sA lT=>by rw [ao] at lT;cases lT;exact Am,av,AC,rfl⟩
      | cons F eC =>
        simp at ad
        obtain ⟨rfl,rfl⟩:=ad
        exact c7 eC r fp rfl
structure zA (i:cM) (ak:Array Oper) (fo:List (Nat×Bool)) (Y:bW→List aB→Prop) (gF:Act) (pre:List no) (bv:List (Nat×Bool)) (D:bW) (bN C:List aB) (cv:Array Bool) (l:Act) (j:World):Prop where
  bw:fo=pre.map (fun r=>(r.b,!r.A))++bv
  cs:bv=[]∨∃ b Z,bv=(b,true) :: Z
  fH:aL i ak Y (pre.map no.b).reverse bv D bN C
  dC:cl i.an i.bL C j
  oK:tE i C bN
  gu:hH i.s (la pre gF) D
  aM:∀ eC r fp,pre=eC++r :: fp→ak[r.b]?=some r.v∧(∀ y,r.v.dst=some y→Nat.blt y i.s=true)∧(r.A=true→hH i.s (la eC gF) r.D∧xM i r.D r.bN ak r.v r.m∧(cv.getD r.b false=false→tE i bN r.bN)∧(vx r.v=true→r.bN=[]))
  size:cv.size=ak.size
  only:∀ b,cv.getD b false=true→∃ r∈pre,r.b=b
  O':∀ r∈pre,r.A=false→cv.getD r.b false=true
  x5:∀ b k,cv.getD b false=true→waits ak b k=true→cv.getD k false=true
  x2:∀ r∈pre,cv.getD r.b false=true→∀ y,r.v.dst=some y→l.tmps.getD y undef=r.m
  wC:∀ u,(∀ r∈pre,cv.getD r.b false=true→r.v.dst≠some u)→l.tmps.getD u undef=gF.tmps.getD u undef
  sa:l.tmps.size=gF.tmps.size
  defers:l.defers=gF.defers
section
variable {i:cM} {ak:Array Oper} {fo:List (Nat×Bool)} {Y:bW→List aB→Prop} {gF:Act} {pre:List no} {bv:List (Nat×Bool)} {D:bW} {bN C:List aB} {cv:Array Bool} {l:Act} {j:World}
def zA.op(cZ:zA i ak fo Y gF pre bv D bN C cv l j){r:no}(aC:r∈pre):ak[r.b]?=some r.v∧∀ y,r.v.dst=some y→Nat.blt y i.s=true:=by
  obtain ⟨eC,fp,ad⟩:=KN aC
  exact ⟨(cZ.aM eC r fp ad).1,(cZ.aM eC r fp ad).2.1⟩
def zA.gX(cZ:zA i ak fo Y gF pre bv D bN C cv l j)(fO:Mk ak fo):(pre.map no.b).Nodup:=by
  have:=fO.gX
  rw [cZ.bw,gR] at this
  have c:=(lm.1 this).1
  rwa [rl] at c
def zA.looks(cZ:zA i ak fo Y gF pre bv D bN C cv l j)(fO:Mk ak fo)(aw:gF.tmps.size=i.s){eC fp:List no}(ad:pre=eC++fp){b:Nat}{p:Bool}{Kx:List (Nat×Bool)}(OA:fo=eC.map (fun r=>(r.b,!r.A))++(b,p) :: Kx)
    {v:Oper} (bw:ak[b]?=some v) (bp:cv.getD b false=false) (cs:b∈Region.ready .any ak cv):∀ u∈v.looksAt ak,l.tmps.getD u undef=(la eC gF).tmps.getD u undef:=by
  intro u bA
  have gv:∀ r∈eC,r.b≠b:=fun r aC nA=>by
    have:=fO.gX
    rw [OA,gR,kO,rl] at this
    have G:=(lm.1 this).2.2 r.b (bx.2 ⟨r,aC,rfl⟩) b oU
    exact G nA
  have akT:=cZ.gX fO
  by_cases pQ:∃ k n,ak[k]?=some n∧n.dst=some u∧b≠k
  · obtain ⟨k,n,ag,vm,ea⟩:=pQ
    have CR:∀ r∈pre,r.v.dst=some u→r.b=k:=fun r aC nB=>by
      by_cases sN:r.b=k
      · exact sN
      · exact absurd nB ((fO.EG r.b k r.v n u sN (cZ.op aC).1 ag vm).1)
    rcases (fO.EG b k v n u ea bw ag vm).2 bA with bU|bU
    · have aly:=vA cs bU
      have ng:=fO.o3 _ _ _ OA k bU
      rw [rl] at ng
      obtain ⟨r,aC,sN⟩:=bx.1 ng
      have sN:r.b=k:=sN
      have yq:r∈pre:=by rw [ad];exact oS _ aC
      have CD:r.v=n:=by have:=(cZ.op yq).1;rw [sN,ag] at this;exact (p8 this).symm
      have ym:r.v.dst=some u:=by rw [CD];exact vm
      have kp:u < gF.tmps.size:=by rw [aw];exact kc ((cZ.op yq).2 u ym)
      rw [cZ.x2 r yq (by rw [sN];exact aly) u ym,Mw eC gF u r.m kp (fun z bc qr=>by
        have VX:z∈pre:=by rw [ad];exact oS _ bc
        rw [Jw akT VX yq (by rw [CR z VX qr,sN])]) ⟨r,aC,ym⟩]
    · rw [cZ.wC u (fun r aC Ap nB=>by
        have:=cZ.x5 k b (by rw [←CR r aC nB];exact Ap) bU
        rw [bp] at this;cases this),EA eC gF u (fun r aC nB=>by
        have yq:r∈pre:=by rw [ad];exact oS _ aC
        have sN:=CR r yq nB
        obtain ⟨ep,fu,a6⟩:=KN aC
        have ng:=fO.o3 (ep.map fun r=>(r.b,!r.A)) (r.b,!r.A) (fu.map (fun r=>(r.b,!r.A))++(b,p) :: Kx) (by rw [OA,a6];simp) b (by simpa [sN] using bU)
        rw [rl] at ng
        obtain ⟨z,bc,vd⟩:=bx.1 ng
        exact gv z (by rw [a6];exact oS _ bc) vd)]
  · have dy:∀ r∈pre,r.v.dst=some u→r.b=b:=fun r aC nB=>by
      by_cases nA:b=r.b
      · exact nA.symm
      · exact absurd ⟨r.b,r.v,(cZ.op aC).1,nB,nA⟩ pQ
    rw [cZ.wC u (fun r aC Ap nB=>by rw [dy r aC nB,bp] at Ap;cases Ap),EA eC gF u (fun r aC nB=>gv r aC (dy r (by rw [ad];exact oS _ aC) nB))]
def Uu{l p:Act}{v:Oper}(Wh:∀ ay p,v.op≠.select ay p)(W:l.tmps.size=p.tmps.size)(c:∀ u∈v.looksAt ak,l.tmps.getD u undef=p.tmps.getD u undef) :
    execOp l.eval v=execOp p.eval v∧Region.wanted v (yielded ak l.tmps)=Region.wanted v (yielded ak p.tmps):=by
  have VY:∀ u∈v.looksAt ak,l.tmps[u]?=p.tmps[u]?:=fun u bA=>by
    have G:=c u bA
    rw [l6,l6] at G
    by_cases ca:u < l.tmps.size
    · have Ot:u < p.tmps.size:=W ▸ ca
      rw [om ca,om Ot] at G ⊢
      exact dz some G
    · rw [BA (QU ca),BA (W ▸ QU ca)]
  refine ⟨execOp_congr v Wh (fun e Q=>by
    cases e with
    | tmp u=>exact c u (oS _ (vT.2 ⟨.tmp u,by simpa using Q,rfl⟩))
    | _=>rfl),?_⟩
  unfold Region.wanted
  cases bq:v.guard with
  | none=>rfl
  | some Nv =>
    obtain ⟨L,db⟩:=Nv
    have:yielded ak l.tmps L=yielded ak p.tmps L:=by
      unfold yielded
      cases bA:(ak[L]?).bind (·.dst) with
      | none=>rfl
      | some u =>
        exact adR
    simp only [this]
end
def Xn{i:cM}{ok:i.bC}{d:List eH}{ak:Array Oper}{fo:List (Nat×Bool)}(dP:w4 ak fo=true){D:bW}{bN C:List aB}(dj:tE i C bN)(c:aL i ak (fun du B=>K i d du B) [] fo D bN C){gF:Act}{an:World}(o':hH i.s gF D)(nh:cl i.an i.bL C an) :
    wpAny i.o .any ak (i.cz d) ak.size (Array.replicate ak.size false) gF an:=by
  have fO:=apG dP
  have Pb:∀ t pre bv D bN C cv l j,zA i ak fo (fun du B=>K i d du B) gF pre bv D bN C cv l j→((List.range ak.size).filter fun b=>!cv.getD b false).length=t→wpAny i.o .any ak (i.cz d) t cv l j:=by
    intro t
    induction t with
    | zero =>
      intro pre bv D bN C cv l j cZ bh
      have fw:∀ b,b < ak.size→cv.getD b false=true:=fun b ac=>by
        have G:(List.range ak.size).filter (fun b=>!cv.getD b false)=[]:=By bh
        simpa using Dz.1 G b (kd.2 ac)
      have CL:=cZ.fH
      have alX:bv=[]:=by
        rcases cZ.cs with G|⟨b,Z,G⟩
        · exact G
        · exfalso
          rw [G] at CL
          obtain ⟨v,bw,_⟩:=CL
          obtain ⟨r,aC,nA⟩:=cZ.only b (fw b (qE.1 bw).1)
          have:=fO.gX
          rw [cZ.bw,G,gR,kO,rl] at this
          exact (lm.1 this).2.2 r.b (bx.2 ⟨r,aC,rfl⟩) b oU nA
      subst alX
      refine ⟨?_,?_⟩
      · rw [QM]
        intro b ac
        obtain ⟨bp,v,bw,_⟩:=mem_ready.1 ac
        have ca:=(qE.1 bw).1
        rw [getD_tf (by rw [cZ.size];exact ca),fw b ca] at bp
        cases bp
      · have cF:K i d D C:=CL
        refine cF ok l j ⟨by rw [cZ.sa];exact o'.size,by rw [cZ.defers];exact o'.defers,fun u m bA=>?_⟩ cZ.dC
        rw [←cZ.gu.cC u m bA]
        by_cases pQ:∃ r∈pre,r.v.dst=some u
        · obtain ⟨r,aC,nB⟩:=pQ
          have kp:u < gF.tmps.size:=by rw [o'.size];exact kc ((cZ.op aC).2 u nB)
          rw [cZ.x2 r aC (fw _ (qE.1 (cZ.op aC).1).1) u nB,Mw pre gF u r.m kp (fun z bc qr=>by
            by_cases CE:z.b=r.b
            · rw [Jw (cZ.gX fO) bc aC CE]
            · exact absurd qr ((fO.EG z.b r.b z.v r.v u CE (cZ.op bc).1 (cZ.op aC).1 nB).1)) ⟨r,aC,nB⟩]
        · rw [cZ.wC u (fun r aC _ nB=>pQ ⟨r,aC,nB⟩),EA pre gF u (fun r aC nB=>pQ ⟨r,aC,nB⟩)]
    | succ t b6 =>
      intro pre bv D bN C cv l j cZ bh
      refine ⟨fun bB=>?_,fun b cs=>?_⟩
      · exfalso
        -- the first in the walk's order that is not listed is ready
        have pQ:∃ b,b < ak.size∧cv.getD b false=false:=by
          have G:(List.range ak.size).filter (fun b=>!cv.getD b false)≠[]:=fun G=>by rw [G] at bh;simp at bh
          exact adQ
        obtain ⟨b,ac,bp⟩:=pQ
        have first:∀ (ep:List (Nat×Bool)) e fu,fo=ep++e :: fu→e.1 < ak.size→cv.getD e.1 false=false→∃ k,k∈Region.ready .any ak cv:=by
          intro ep
          induction S:ep.length using Nat.strongRecOn generalizing ep with
          | _ s ant =>
            intro e fu a6 Q al7
            by_cases bU:∃ k,waits ak e.1 k=true∧cv.getD k false=false
            · obtain ⟨k,bU,ag⟩:=bU
              have ng:=fO.o3 ep e fu a6 k bU
              obtain ⟨F,az,ON⟩:=bx.1 ng
              obtain ⟨jQ,Ki,W⟩:=KN az
              refine ant jQ.length (by rw [←S,W,eh,e6];omega) jQ rfl F (Ki++e :: fu) (by rw [a6,W];simp) ?_ (by rw [ON];exact ag)
              exact apF dP F (by rw [a6];exact oS _ az)
            · have ca:e.1 < cv.size:=by rw [cZ.size];exact Q
              exact ⟨e.1,QB (om Q) (by rw [getD_tf ca];exact al7) fun k OL=>by
                cases av:cv.getD k false
                · exact absurd ⟨k,OL,av⟩ bU
                · rfl⟩
        obtain ⟨e,Q,vq⟩:=bx.1 (fO.all b ac)
        obtain ⟨ep,fu,a6⟩:=KN Q
        have vq:e.1=b:=vq
        obtain ⟨k,ag⟩:=first ep e fu a6 (by rw [vq];exact ac) (by rw [vq];exact bp)
        rw [bB] at ag;cases ag
      · obtain ⟨al6,v,bw,_⟩:=mem_ready.1 cs
        have ac:b < ak.size:=(qE.1 bw).1
        have rT:b < cv.size:=by rw [cZ.size];exact ac
        have bp:cv.getD b false=false:=by rw [←getD_tf rT];exact al6
        have ob:∀ k,(cv.setIfInBounds b true).getD k false=true↔(k=b∨cv.getD k false=true):=fun k=>by
          exact ab8
        have VK:((List.range ak.size).filter fun k=>!(cv.setIfInBounds b true).getD k false).length=t:=by
          have aS:=Ua (tp (n:=ak.size)) (n:=fun b=>!cv.getD b false) (ks:=fun k=>!(cv.setIfInBounds b true).getD k false) (kd.2 ac) (by simp [bp]) (fun k ag=>by
            by_cases r:k=b
            · subst r;rw [Ns rT];simp
            · rw [getD_set_ne false (K_ r)];simp [r])
          omega
        have VJ:∀ k eM,(cv.setIfInBounds b true).getD k false=true→waits ak k eM=true→(cv.setIfInBounds b true).getD eM false=true:=fun k eM ag bU=>by
          rw [ob] at ag ⊢
          rcases ag with rfl|ag
          · exact .inr (vA cs bU)
          · exact .inr (cZ.x5 k eM ag bU)
        have Ox:∀ k,(cv.setIfInBounds b true).getD k false=false→cv.getD k false=false:=fun k ag=>by
          cases av:cv.getD k false
          · rfl
          · rw [(ob k).2 (.inr av)] at ag;cases ag
        by_cases CP:∃ r∈pre,r.b=b
        · -- a quiet one that had been held back
          obtain ⟨r,aC,nA⟩:=CP
          obtain ⟨eC,fp,ad⟩:=KN aC
          obtain ⟨CD,akA,Fb⟩:=cZ.aM eC r fp ad
          have a6:r.A=true:=by
            cases a6:r.A
            · have:=cZ.O' r aC a6;rw [nA,bp] at this;cases this
            · rfl
          obtain ⟨IP,AC,alq,_⟩:=Fb a6
          rw [nA,bw] at CD;cases CD
          have Fl:=cZ.looks fO o'.size (fp:=r :: fp) ad (b:=b) (p:=!r.A) (Kx:=fp.map (fun r=>(r.b,!r.A))++bv) (by rw [cZ.bw,ad];simp [nA]) bw bp cs
          obtain ⟨Q,I4⟩:=Uu (fun ay p=>fO.Jy b r.v ay p bw) (by rw [cZ.sa,HT]) Fl
          have ci:cl i.an i.bL r.bN j:=alq (by rw [nA];exact bp) j (cZ.oK j cZ.dC)
          have vj:∀ bQ,Frame j [] bQ→wpAny i.o .any ak (i.cz d) t (cv.setIfInBounds b true) (l.put r.v.dst r.m) bQ:=fun bQ bc=>by
            refine b6 pre bv D bN C _ _ bQ ⟨cZ.bw,cZ.cs,cZ.fH,cZ.dC.J4 bc,cZ.oK,cZ.gu,fun ep z fu a6=>⟨(cZ.aM ep z fu a6).1,(cZ.aM ep z fu a6).2.1,fun c=>⟨((cZ.aM ep z fu a6).2.2 c).1,((cZ.aM ep z fu a6).2.2 c).2.1,fun S=>((cZ.aM ep z fu a6).2.2 c).2.2.1 (Ox z.b S),((cZ.aM ep z fu a6).2.2 c).2.2.2⟩⟩,by simpa using cZ.size,fun k ag=>?_,fun z Ar Ff=>(ob _).2 (.inr (cZ.O' z Ar Ff)),VJ,fun z Ar mh y ud=>?_,fun u bA=>?_,by rw [J2];exact cZ.sa,by rw [De];exact cZ.defers⟩ VK
            · rcases (ob k).1 ag with rfl|ag
              · exact ⟨r,aC,nA⟩
              · exact cZ.only k ag
            · by_cases vd:z.b=b
              · have:z=r:=Jw (cZ.gX fO) Ar aC (by rw [vd,nA])
                subst this
                rw [ud,vy _ _ _ _ (by rw [cZ.sa,o'.size];exact kc (akA y ud)),ee rfl]
              · rw [F' _ _ _ _ (fun ao=>absurd ud ((fO.EG z.b b z.v r.v y vd (cZ.op Ar).1 bw ao).1))]
                exact cZ.x2 z Ar (((ob _).1 mh).resolve_left vd) y ud
            · rw [F' _ _ _ _ (bA r aC ((ob _).2 (.inl nA)))]
              exact cZ.wC u fun z Ar mh=>bA z Ar ((ob _).2 (.inr mh))
          unfold wpOp
          simp only [bw]
          rcases AC ok _ j IP ci with ⟨gk,oH⟩|⟨gk,ba⟩
          · rw [ee Rq]
            refine .inl ?_
            unfold Oper.wp
            rw [Q]
            rcases oH with oH|⟨z,args,oH,mI⟩
            · rw [oH];exact vj j (Frame.refl j _)
            · rw [oH]
              refine aaA mI ?_
              rintro r bQ ⟨rfl,eY⟩
              exact vj bQ eY
          · rw [be abq,←ba]
            exact vj j (Frame.refl j _)
        · -- the next loud one
          have CL:=cZ.fH
          rcases cZ.cs with G|⟨f,Z,G⟩
          · exfalso
            have:=fO.all b ac
            rw [cZ.bw,G,xA,rl] at this
            obtain ⟨r,aC,nA⟩:=bx.1 this
            exact CP ⟨r,aC,nA⟩
          have akS:b=f:=by
            have ng:=fO.all b ac
            rw [cZ.bw,G,gR,rl] at ng
            rcases iE.1 ng with ng|ng
            · obtain ⟨r,aC,nA⟩:=bx.1 ng
              exact absurd ⟨r,aC,nA⟩ CP
            · simp only [kO,fb] at ng
              rcases ng with J|J
              · exact J
              · exfalso
                obtain ⟨e,Q,vq⟩:=bx.1 J
                obtain ⟨fu,ux,a6⟩:=KN Q
                have vq:e.1=b:=vq
                obtain ⟨k,bU,ag⟩:=fO.dm (pre.map fun r=>(r.b,!r.A)) f fu e ux (by rw [cZ.bw,G,a6])
                rw [vq] at bU
                obtain ⟨r,aC,sN⟩:=cZ.only k (vA cs bU)
                have gv:=fO.gX
                rw [cZ.bw,G,a6,gR,rl] at gv
                refine (lm.1 gv).2.2 r.b (bx.2 ⟨r,aC,rfl⟩) k ?_ sN
                rcases ag with rfl|ag
                · simp
                · obtain ⟨F,az,ON⟩:=bx.1 ag
                  exact bx.2 ⟨F,by simp [az],ON⟩
          subst akS
          rw [G] at CL
          obtain ⟨jo,uh,Am,alA⟩:=CL
          rw [bw] at uh;cases uh
          have Fl:=cZ.looks fO o'.size (eC:=pre) (fp:=[]) oU (b:=b) (p:=true) (Kx:=Z) (by rw [cZ.bw,G]) bw bp cs
          obtain ⟨Q,I4⟩:=Uu (fun ay p=>fO.Jy b v ay p bw) (by rw [cZ.sa,HT]) Fl
          have vj:∀ m B bQ,(∃ hs,tE i B hs∧(zP ak b (pre.map no.b).reverse=true∨tE i hs bN)∧aL i ak (fun du B=>K i d du B) (b :: (pre.map no.b).reverse) Z (Ig v.dst m D) hs B)→cl i.an i.bL B bQ→wpAny i.o .any ak (i.cz d) t (cv.setIfInBounds b true) (l.put v.dst m) bQ:=by
            rintro m B bQ ⟨hs,q4,kE,Ov⟩ eY
            have E6:hH i.s (la (pre++[⟨b,false,v,m,D,bN⟩]) gF) (Ig v.dst m D):=by
              rw [HS]
              simp only [la]
              cases ao:v.dst with
              | none=>exact cZ.gu
              | some y=>exact cZ.gu.put m (Am y ao)
            obtain ⟨r8,vB,du,dQ,bP,cP,cQ,dZ,eE⟩:=Pq Ov E6
            have AE:∀ r∈r8,cv.getD r.b false=false:=fun r aC=>by
              cases av:cv.getD r.b false
              · rfl
              · exfalso
                obtain ⟨z,bc,CE⟩:=cZ.only r.b av
                have gv:=fO.gX
                rw [cZ.bw,G,dQ,gR,rl] at gv
                refine (lm.1 gv).2.2 z.b (bx.2 ⟨z,bc,rfl⟩) r.b ?_ CE
                exact bx.2 ⟨(r.b,!r.A),by simp;exact .inr (.inl ⟨r,aC,rfl,rfl⟩),rfl⟩
            have alW:∀ r∈r8,r.b≠b:=fun r aC nA=>by
              have gv:=fO.gX
              rw [cZ.bw,G,dQ,gR,rl] at gv
              have We:=(lm.1 gv).2.1
              simp only [kO,kP] at We
              exact We.1 (bx.2 ⟨(r.b,!r.A),by simp;exact .inl ⟨r,aC,rfl,rfl⟩,nA⟩)
            refine b6 (pre++[⟨b,false,v,m,D,bN⟩]++r8) vB du hs B _ _ bQ ⟨by rw [cZ.bw,G,dQ];simp,bP,by simpa using cP,eY,q4,by rw [HS];exact cQ,fun eC r fp ad=>?_,by simpa using cZ.size,fun k ag=>?_,fun z bc Ff=>?_,VJ,fun z bc mh y ud=>?_,fun u bA=>?_,by rw [J2];exact cZ.sa,by rw [De];exact cZ.defers⟩ VK
            · rw [ia] at ad
              rcases Ld.1 ad with ⟨H,jw,lf⟩|⟨H,jw,lf⟩
              · cases H with
                | nil =>
                  exact ace
                | cons F H =>
                  simp at lf
                  obtain ⟨rfl,lf⟩:=lf
                  obtain ⟨b9,cS,dE,mG,qm⟩:=eE H r fp lf
                  refine ⟨b9,cS,fun _=>⟨?_,mG,fun _ j bU=>by rw [qm];exact WZ bU,fun dk=>by rw [qm,ee dk]⟩⟩
                  have:eC=(pre++[⟨b,false,v,m,D,bN⟩])++H:=by rw [jw];simp
                  rw [this,HS]
                  exact dE
              · cases H with
                | nil =>
                  exact ace
                | cons F H =>
                  simp at lf
                  obtain ⟨rfl,lf⟩:=lf
                  obtain ⟨b9,cS,dE⟩:=cZ.aM eC r H jw
                  refine ⟨b9,cS,fun a6=>⟨(dE a6).1,(dE a6).2.1,fun S j bU=>?_,(dE a6).2.2.2⟩⟩
                  rcases kE with kE|kE
                  · have yq:r∈pre:=by rw [jw];simp
                    have c7:=rj.1 kE r.b (by simp;exact ⟨r,yq,rfl⟩)
                    rcases KR _ _ ▸ c7 with c7|ajN
                    case inr =>
                      have AF:vx r.v=true:=by simpa [X7,b9] using ajN
                      rw [(dE a6).2.2.2 AF];exact W0 bU
                    exfalso
                    have gi:cv.getD r.b false=true:=by
                      rcases KR _ _ ▸ c7 with dL|dL
                      · exact vA cs dL
                      · obtain ⟨dF,_,h2⟩:=vV.1 dL
                        simp only [h6] at h2
                        rcases KR _ _ ▸ h2.2 with hN|hN
                        · exact cZ.x5 dF r.b (vA cs h2.1) hN
                        · obtain ⟨ig,_,lR⟩:=vV.1 hN
                          simp only [h6] at lR
                          exact cZ.x5 ig r.b (cZ.x5 dF ig (vA cs h2.1) lR.1) lR.2
                    rw [Ox r.b S] at gi;cases gi
                  · exact (dE a6).2.2.1 (Ox r.b S) j (kE j bU)
            · rcases (ob k).1 ag with rfl|ag
              · exact ⟨⟨k,false,v,m,D,bN⟩,by simp,rfl⟩
              · obtain ⟨z,bc,akC⟩:=cZ.only k ag
                exact ⟨z,by simp [bc],akC⟩
            · rw [ob]
              simp only [ia,iE,nm] at bc
              rcases bc with bc|rfl|bc
              · exact .inr (cZ.O' z bc Ff)
              · exact .inl rfl
              · rw [dZ z bc] at Ff;cases Ff
            · simp only [ia,iE,nm] at bc
              rcases bc with bc|rfl|bc
              · have vd:z.b≠b:=fun vd=>CP ⟨z,bc,vd⟩
                rw [F' _ _ _ _ (fun ao=>absurd ud ((fO.EG z.b b z.v v y vd (cZ.op bc).1 bw ao).1))]
                exact cZ.x2 z bc (((ob _).1 mh).resolve_left vd) y ud
              · have ud:v.dst=some y:=ud
                rw [ud,vy _ _ _ _ (by rw [cZ.sa,o'.size];exact kc (Am y ud)),ee rfl]
              · rcases (ob _).1 mh with bT|bT
                · exact absurd bT (alW z bc)
                · rw [AE z bc] at bT;cases bT
            · rw [F' _ _ _ _ (bA ⟨b,false,v,m,D,bN⟩ oU ((ob _).2 (.inl rfl)))]
              exact cZ.wC u fun z bc mh=>bA z (by simp [bc]) ((ob _).2 (.inr mh))
          unfold wpOp
          simp only [bw]
          rcases alA ok _ j cZ.gu cZ.dC with ⟨gk,am'⟩|⟨gk,dI⟩
          · rw [ee Rq]
            refine .inl (axe (bo:=fun m B bQ=>(∃ hs,tE i B hs∧(zP ak b (pre.map no.b).reverse=true∨tE i hs bN)∧aL i ak (fun du B=>K i d du B) (b :: (pre.map no.b).reverse) Z (Ig v.dst m D) hs B)∧cl i.an i.bL B bQ) Q (fun y ao=>by rw [HT,o'.size];exact kc (Am y ao)) am' ?_)
            rintro m B bQ ⟨bT,c7⟩
            exact vj m B bQ bT c7
          · rw [be abq]
            exact vj undef C j dI cZ.dC
  obtain ⟨r8,vB,du,dQ,bP,cP,cQ,dZ,eE⟩:=Pq c o'
  have bc:∀ k,(Array.replicate ak.size false).getD k false=false:=fun k=>getD_replicate_false _ k
  refine Pb _ r8 vB du bN C _ gF an ⟨dQ,bP,by simpa using cP,nh,dj,cQ,fun eC r fp ad=>?_,by simp,fun b ac=>DK,fun r aC a6=>(by rw [dZ r aC] at a6;cases a6),fun b k ac=>DK,fun r _ ac=>DK,fun u _=>rfl,rfl,rfl⟩ ?_
  · obtain ⟨b9,cS,dE,mG,qm⟩:=eE eC r fp ad
    exact ⟨b9,cS,fun _=>⟨dE,mG,fun _ j bU=>by rw [qm];exact WZ bU,fun dk=>by rw [qm,ee dk]⟩⟩
  · have G:(List.range ak.size).filter (fun b=>!(Array.replicate ak.size false).getD b false)=List.range ak.size:=rk.2 fun k _=>by rw [getD_replicate_false];rfl
    rw [G,DB]
def gr(i:cM)(ak:Array Oper)(Y:bW→List aB→Prop)(b:Nat)(c6:List Nat)(bv:List (Nat×Bool))(D:bW)(bN B:List aB):Prop:=∃ hs,tE i B hs∧(zP ak b c6=true∨tE i hs bN)∧aL i ak Y (b :: c6) bv D hs B
section
variable {i:cM} {d:List eH} {D:bW} {bN C:List aB} {ak:Array Oper} {v:Op} {aX:TypeId} {y b:Nat} {c6:List Nat} {pos:String} {cT:Array Edge} {m:Value} {bv:List (Nat×Bool)} {Y:bW→List aB→Prop}
def K.aiE{id:Nat}{f:List Oper}(fo:List (Nat×Bool))(bt:List Nat)(bN:List aB)(bh:i.o.follows .mixedOrders=true)(dP:w4 f.toArray fo=true)(aw:bt.Nodup)(dv:LK.dB C bt=bN)
    (c:aL i f.toArray (fun du B=>K i d du B) [] fo D bN C):K i (.code (.region id f.toArray true) :: d) D C:=fun ok _ _ V W =>
  wp_region_any bh (Xn (ok:=ok) dP (fun _ W=>dv ▸ W.dB aw) c V W.zS)
def gr.go(bt ec:List Nat)(hs:List aB){B:List aB}(aw:bt.Nodup)(dv:LK.dB B bt=hs)(mK:ec.Nodup)(dj:LK.dB hs ec=bN)(c:aL i ak Y (b :: c6) bv D hs B):gr i ak Y b c6 bv D bN B :=
  ⟨hs,fun _ W=>dv ▸ W.dB aw,.inr fun _ W=>dj ▸ W.dB mK,c⟩
def gr.all(bt:List Nat)(hs:List aB){B:List aB}(aw:bt.Nodup)(dv:LK.dB B bt=hs)(bU:zP ak b c6=true)(c:aL i ak Y (b :: c6) bv D hs B):gr i ak Y b c6 bv D bN B :=
  ⟨hs,fun _ W=>dv ▸ W.dB aw,.inl bU,c⟩
def aL.nil(c:Y D C):aL i ak Y c6 [] D bN C:=c
def aL.A(ac:ak[b]?=some ⟨some y,v,aX,pos,cT,none⟩)(a6:aV i D bN v aX m)(ao:Nat.blt y i.s=true)(c:aL i ak Y (b :: c6) bv ((y,m) :: D) bN C)(ad:vx ⟨some y,v,aX,pos,cT,none⟩=false:=by rfl):aL i ak Y c6 ((b,false) :: bv) D bN C :=
  ⟨_,y,m,ac,rfl,ao,fun ok l j V W=>.inl ⟨by simp [Region.wanted],.inl (a6 ok l j V W _ _ _ _)⟩,(fun au=>by rw [ad] at au;cases au),c⟩
def aL.n(ac:ak[b]?=some ⟨some y,v,aX,pos,cT,none⟩)(a6:U i D v aX m)(ao:Nat.blt y i.s=true)(c:aL i ak Y (b :: c6) bv ((y,m) :: D) bN C):aL i ak Y c6 ((b,false) :: bv) D bN C :=
  ⟨_,y,m,ac,rfl,ao,fun ok l j V W=>.inl ⟨by simp [Region.wanted],.inl (a6.dg (C:=bN) ok l j V W _ _ _ _)⟩,fun _ ok l j V W=>.inl ⟨by simp [Region.wanted],.inl (a6.dg (C:=[]) ok l j V W _ _ _ _)⟩,c⟩
def aL.eg{k u:Nat}{db p:Bool}(ac:ak[b]?=some ⟨some y,v,aX,pos,cT,some (k,db)⟩)(ag:(ak[k]?).bind (·.dst)=some u)(bA:gx D u=some (.bool p))(av:p=db)(aw:Nat.blt u i.s=true)(a6:aV i D bN v aX m)(ao:Nat.blt y i.s=true)
    (c:aL i ak Y (b :: c6) bv ((y,m) :: D) bN C):aL i ak Y c6 ((b,false) :: bv) D bN C :=
  ⟨_,y,m,ac,rfl,ao,fun ok l j V W=>.inl ⟨xl (k:=k) (u:=u) (db:=db) V rfl ag (av ▸ bA) aw,.inl (a6 ok l j V W _ _ _ _)⟩,fun au=>absurd au DQ,c⟩
def aL.iI{k u:Nat}{db:Bool}{aG:Value}(ac:ak[b]?=some ⟨some y,v,aX,pos,cT,some (k,db)⟩)(ag:(ak[k]?).bind (·.dst)=some u)(bA:gx D u=some aG)(bp:o4 aG≠some db)(aw:Nat.blt u i.s=true)(ao:Nat.blt y i.s=true)
    (c:aL i ak Y (b :: c6) bv ((y,undef) :: D) bN C):aL i ak Y c6 ((b,false) :: bv) D bN C :=
  ⟨_,y,undef,ac,rfl,ao,fun _ _ _ V _=>.inr ⟨y8 (k:=k) (u:=u) (db:=db) V rfl ag bA bp aw,rfl⟩,fun au=>absurd au DQ,c⟩
def aL.call{z:FuncId}{e:Operand}{dq:List Operand}{eW:Array TypeId}{ae fP:List Value}{en:List aB}{post:Value→List aB→Prop}(ac:ak[b]?=some ⟨some y,.call { callee:=.value e,args:=dq.toArray,argTypes:=eW },aX,pos,cT,none⟩)
    (mI:∀ args j,(callFunc z args).run i.o j=.ok (.enter z args) j) (Q:aT D e=some (.func (.func z) #[] fP.toArray))
    (ly:dq.map (aT D)=ae.map some) (bA:M i.o z (ae++fP).toArray en [] post) (Ft:∀ aG B,post aG B→aG=m∧B=[]) (fM:eI i bN [] en) (ao:Nat.blt y i.s=true) (c:aL i ak Y (b :: c6) bv ((y,m) :: D) bN C) :
    aL i ak Y c6 ((b,false) :: bv) D bN C :=
  ⟨_,y,m,ac,rfl,ao,fun ok l j V W=>.inl ⟨by simp [Region.wanted],.inr ⟨z,(ae++fP).toArray,by
      have G:dq.map l.eval=ae:=V.dn ly
      simp [execOp,resolve,Deferred.ofValue,invoke,V.aT Q,G,mI],by
      refine (bA j (fM ok j W) ⟨Frame.refl j _,by simp,by simp,by simp⟩).mono ?_
      rintro r bQ ⟨aG,B,rfl,ad,eY⟩
      obtain ⟨rfl,rfl⟩:=Ft aG B ad
      exact ⟨rfl,eY.aE⟩⟩⟩,fun au=>absurd au DQ,c⟩
def aL.yd{z:FuncId}{e:Operand}{dq:List Operand}{eW:Array TypeId}{ae fP:List Value}{en:List aB}{post:Value→List aB→Prop}{k u:Nat}{db p:Bool}(ac:ak[b]?=some ⟨some y,.call { callee:=.value e,args:=dq.toArray,argTypes:=eW },aX,pos,cT,some (k,db)⟩)
    (ag:(ak[k]?).bind (·.dst)=some u) (sV:gx D u=some (.bool p)) (av:p=db) (aw:Nat.blt u i.s=true)
    (mI:∀ args j,(callFunc z args).run i.o j=.ok (.enter z args) j) (Q:aT D e=some (.func (.func z) #[] fP.toArray))
    (ly:dq.map (aT D)=ae.map some) (bA:M i.o z (ae++fP).toArray en [] post) (Ft:∀ aG B,post aG B→aG=m∧B=[]) (fM:eI i bN [] en) (ao:Nat.blt y i.s=true) (c:aL i ak Y (b :: c6) bv ((y,m) :: D) bN C) :
    aL i ak Y c6 ((b,false) :: bv) D bN C :=
  ⟨_,y,m,ac,rfl,ao,fun ok l j V W=>.inl ⟨xl (k:=k) (u:=u) (db:=db) V rfl ag (av ▸ sV) aw,.inr ⟨z,(ae++fP).toArray,by
      have G:dq.map l.eval=ae:=V.dn ly
      simp [execOp,resolve,Deferred.ofValue,invoke,V.aT Q,G,mI],by
      refine (bA j (fM ok j W) ⟨Frame.refl j _,by simp,by simp,by simp⟩).mono ?_
      rintro r bQ ⟨aG,B,rfl,ad,eY⟩
      obtain ⟨rfl,rfl⟩:=Ft aG B ad
      exact ⟨rfl,eY.aE⟩⟩⟩,fun au=>absurd au DQ,c⟩
def aL.f{ah:Value→List aB→Prop}(ac:ak[b]?=some ⟨some y,v,aX,pos,cT,none⟩)(S:aq i D C v aX ah)(ao:Nat.blt y i.s=true)(c:∀ m B,ah m B→gr i ak Y b c6 bv ((y,m) :: D) bN B):aL i ak Y c6 ((b,true) :: bv) D bN C :=
  ⟨_,ac,fun sA lT=>by cases lT;exact ao,fun ok l j V W=>.inl ⟨by simp [Region.wanted],S ok l j V W _ _ _ _ _ _ fun m B _ dI eY=>⟨m,B,rfl,c m B dI,eY⟩⟩⟩
def aL.cq{ah:Value→List aB→Prop}(ac:ak[b]?=some ⟨none,v,aX,pos,cT,none⟩)(S:aq i D C v aX ah)(c:∀ m B,ah m B→gr i ak Y b c6 bv D bN B):aL i ak Y c6 ((b,true) :: bv) D bN C :=
  ⟨_,ac,fun sA lT=>(by cases lT),fun ok l j V W=>.inl ⟨by simp [Region.wanted],S ok l j V W _ _ _ _ _ _ fun m B _ dI eY=>⟨m,B,rfl,c m B dI,eY⟩⟩⟩
def aL.oC{k u:Nat}{db p:Bool}{ah:Value→List aB→Prop}(ac:ak[b]?=some ⟨some y,v,aX,pos,cT,some (k,db)⟩)(ag:(ak[k]?).bind (·.dst)=some u)(bA:gx D u=some (.bool p))(av:p=db)(aw:Nat.blt u i.s=true)(S:aq i D C v aX ah)(ao:Nat.blt y i.s=true)
    (c:∀ m B,ah m B→gr i ak Y b c6 bv ((y,m) :: D) bN B):aL i ak Y c6 ((b,true) :: bv) D bN C :=
  ⟨_,ac,fun sA lT=>by cases lT;exact ao,fun ok l j V W=>.inl ⟨xl (k:=k) (u:=u) (db:=db) V rfl ag (av ▸ bA) aw,S ok l j V W _ _ _ _ _ _ fun m B _ dI eY=>⟨m,B,rfl,c m B dI,eY⟩⟩⟩
def U.jx{len r L off H:Nat}{t:Int}{e F:Operand}{fT:TypeId}(l0:Nat)(cF:∀ j,(underlying fT).run i.o j=.ok (.array len r) j)(W:∀ j,(sizeOf r).run i.o j=.ok H j)
    (Q:aT D e=some (.pointer (some ⟨L,off,none⟩))) (az:aT D F=some (.b t)) (bB:0≤t) (G:t < len) (bw:off+t.toNat*H=l0):U i D (.indexAddr fT e F) aX (.pointer (some ⟨L,l0,none⟩)):=bw ▸ U.anx cF W Q az bB G
end
end Go.LK
namespace Go.LK
open Go Go.RowKit
section
variable {bi:Type}
def ye:List (List Int×bi)→List Int→Option bi
  | [],_=>none
  | n :: t,d=>if n.1=d then some n.2 else ye t d
def sw:List (List Int×bi)→List Int→Nat→Option (Nat×bi)
  | [],_,_=>none
  | n :: t,d,b=>if n.1=d then some (b,n.2) else sw t d (b+1)
def agG(t:List (List Int×bi))(d:List Int):∀ b,(sw t d b).map (·.2)=ye t d:=by
  induction t with
  | nil=>intro b;rfl
  | cons n t b6 =>
    intro b
    simp only [sw,ye]
    exact RQ
end
structure tD (o:Program) (u:TypeId) (cB:List Int→Value) (s:Nat):Prop where
  e7:∀ (j:World) (em:Bool) (d:List Int),d.length=s→(Instr.checkKey em 10000 u (cB d)).run o j=.ok () j
  find:∀ (j:World) (d:List Int) (a_:List MapEntry) (t:List (List Int×Value)),a_.map (fun r=>(r.key,r.val))=t.map (fun n=>(cB n.1,n.2))→d.length=s→(∀ n∈t,n.1.length=s) →
    (Instr.findKey u (cB d) a_).run o j=.ok (sw t d 0) j
  bits:∀ d,d.length=s→Instr.sameBits 10000 (cB d) (cB d)=true
def Ck:List Int→Value
  | [l]=>.b l
  | _=>.b 0
def x9(d:List Int):Value:=.agg (kJ d).toArray
def Je{d:List Int}(c:d.length=1):∃ l,d=[l]:=by
  match d,c with
  | [l],_=>exact ⟨l,rfl⟩
def tD.int{o:Program}{u:TypeId}(bA:o.underlying u=some (.int .i64)):tD o u Ck 1 where
  e7 j em d R:=by
    obtain ⟨l,rfl⟩:=Je R
    unfold Instr.checkKey
    simp [jf bA,Result.andThen,Ck]
  find j d a_ t aC R bh:=by
    obtain ⟨l,rfl⟩:=Je R
    have key:∀ (a_:List MapEntry) (t:List (List Int×Value)) (b:Nat),a_.map (fun r=>(r.key,r.val))=t.map (fun n=>(Ck n.1,n.2))→(∀ n∈t,n.1.length=1)→Instr.findNow (.int .i64) (.b l) a_ b=some (sw t [l] b):=by
      intro a_
      induction a_ with
      | nil =>
        exact acr
      | cons r a_ b6 =>
        intro t b aC bh
        cases t with
        | nil=>simp at aC
        | cons n t =>
          simp only [kO,oR,tr] at aC
          obtain ⟨⟨G,J⟩,aA⟩:=aC
          obtain ⟨p,av⟩:=Je (bh n oU)
          simp only [Instr.findNow,G,av,Ck,Instr.sameNow,if_true,sw]
          by_cases lw:l=p
          · subst lw;simp [J]
          · have aZ:(l == p)=false:=by simpa using lw
            have bT:¬[p]=[l]:=by simpa using fun r=>lw r.symm
            rw [aZ,be bT]
            exact b6 t (b+1) aA fun A a6=>bh A aa'
    have G:=key a_ t 0 aC bh
    simp only [Instr.findKey,nn,jf bA,k7,Ck,G,se]
  bits d R:=by
    obtain ⟨l,rfl⟩:=Je R
    simp [Ck,Instr.sameBits]
def YS{o:Program}{j:World}{em:Bool}{y:Nat}(as:List Int):∀ (aH:List Field) (b:Nat),tB o b aH→b+aH.length=as.length →
    (forIn (m := Sem) aH PUnit.unit fun z (_ : PUnit) => if z.name ≠ "_" then (part z.type (kJ as).toArray z.offset >>= fun e => Instr.checkKey em (y + 1) z.type e >>= fun _ => pure (ForInStep.yield PUnit.unit)) else pure (ForInStep.yield PUnit.unit)).run o j = .ok PUnit.unit j
  | [],b,_,_=>by simp
  | z :: aH,b,bc,V=>by
    obtain ⟨bw,aw,bp,cs⟩:=bc
    have b6:=YS (o:=o) (j:=j) (em:=em) (y:=y) as aH (b+1) cs (by simp at V;omega)
    have mj:b < as.length:=by simp at V;omega
    have mK : ¬ z.name = "_" := by simpa using aw
    have qp:∀ j,(isAgg z.type).run o j=.ok false j:=fun j=>by simp [isAgg,jf bp]
    have yS:(part z.type (kJ as).toArray z.offset).run o j=.ok (.b as[b]) j:=by simp [part,qp,bw,kJ,mj]
    have aS:(Instr.checkKey em (y+1) z.type (.b as[b])).run o j=.ok () j:=by
      unfold Instr.checkKey
      simp [jf bp,Result.andThen]
    rw [List.forIn_cons]
    simp only [ne_eq,mK,not_false_eq_true,if_true,nn,yS,k7,aS,se,b6]
def tD.uH{o:Program}{u:TypeId}{aH:Array Field}(bA:o.underlying u=some (.struct aH))(ad:o.stoodInHeld u=false)(bc:tB o 0 aH.toList):tD o u x9 aH.size where
  e7 j em d R:=by
    have c:=YS (o:=o) (j:=j) (em:=em) (y:=9998) d aH.toList 0 bc (by simpa using R.symm)
    unfold Instr.checkKey
    simp only [nn,jf bA,k7,x9]
    rw [←Array.forIn_toList]
    exact (dz (fun Z:Result PUnit=>Z.andThen fun l bQ=>(pure ():Sem Unit).run o bQ) c).trans rfl
  find j d a_ t aC R bh:=by
    have agz:∀ (a_:List MapEntry) (t:List (List Int×Value)) (b:Nat),a_.map (fun r=>(r.key,r.val))=t.map (fun n=>(x9 n.1,n.2))→(∀ n∈t,n.1.length=aH.size)→(Instr.findAsking u (x9 d) a_ b).run o j=.ok (sw t d b) j:=by
      intro a_
      induction a_ with
      | nil =>
        exact acr
      | cons r a_ b6 =>
        intro t b aC bh
        cases t with
        | nil=>simp at aC
        | cons n t =>
          simp only [kO,oR,tr] at aC
          obtain ⟨⟨G,J⟩,aA⟩:=aC
          have aZ:=P4 d n.1 bA ad bc R (bh n oU) j
          have bT:(Op.equal u (x9 d) (x9 n.1)).run o j=.ok (decide (d=n.1)) j:=aZ
          simp only [Instr.findAsking,G,nn,bT,k7,sw,Le]
          by_cases hkp:d=n.1
          · subst hkp;simp [J]
          · have c7:¬n.1=d:=fun r=>hkp r.symm
            simp only [hkp,c7,decide_false,if_false,Bool.false_eq_true]
            exact b6 t (b+1) aA fun A a6=>bh A aa'
    cases a_ with
    | nil =>
      have:t=[]:=by simpa using aC.symm
      subst this
      simp [Instr.findKey,jf bA,Result.andThen,Instr.findNow,sw]
    | cons r a_ =>
      cases t with
      | nil=>simp at aC
      | cons n t =>
        have G:Instr.findNow (.struct aH) (x9 d) (r :: a_) 0=none:=by simp [Instr.findNow,Instr.sameNow]
        simp only [Instr.findKey,nn,jf bA,k7,G]
        exact agz _ _ 0 aC bh
  bits d R:=by
    simp only [x9,Instr.sameBits,kJ]
    simp [List.all_map,List.zip_map',GQ]
    intro l _
    simp [Instr.sameBits]
def mp(p:Nat)(cB:List Int→Value)(s:Nat)(t:List (List Int×Value)):aB where
  dT:=[p]
  holds j:=(∃ cV di,j.heap[p]?=some (.map cV di)∧cV.toList.map (fun r=>(r.key,r.val))=t.map (fun n=>(cB n.1,n.2)))∧∀ n∈t,n.1.length=s
  lt j c d R:=by
    obtain ⟨⟨cV,di,G,_⟩,_⟩:=c
    exact RK
  oM j bQ bU c:=by
    obtain ⟨⟨cV,di,G,J⟩,aA⟩:=c
    exact ⟨⟨cV,di,by rw [bU p oU];exact G,J⟩,aA⟩
section
variable {i:cM} {D:bW} {C:List aB} {aX Y d r:TypeId} {e F aI:Operand} {p s:Nat} {cB:List Int→Value} {t:List (List Int×Value)}
def auo{o:Program}{j:World}{key:List Int}{eU:Value}(cF:o.underlying Y=some (.map d r))(R:tD o d cB s)(ce:∀ j,(zeroValue r).run o j=.ok eU j)(bh:(mp p cB s t).holds j)(S:key.length=s)(ok:Bool) :
    (Instr.lookup Y (.map (some p)) (cB key) ok).run o j=.ok (if ok then .tuple #[(ye t key).getD eU,.bool (ye t key).isSome] else (ye t key).getD eU) j:=by
  obtain ⟨⟨cV,di,G,J⟩,aA⟩:=bh
  have bc:=R.find j key cV.toList t J S aA
  have bq:(getObj p).run o j=.ok (.map cV di) j:=by simp [getObj,Sem.run,G]
  have V:=agG t key 0
  simp only [Instr.lookup,nn,jf cF,k7,bq,R.e7 j _ key S,bc,se]
  cases ft:sw t key 0 with
  | none=>rw [ft] at V;simp [←V,ce]
  | some n=>obtain ⟨b,m⟩:=n;rw [ft] at V;simp [←V]
def aV.gx{key:List Int}{eU X:Value}(b:Nat)(cF:i.o.underlying Y=some (.map d r))(R:tD i.o d cB s)(ce:∀ j,(zeroValue r).run i.o j=.ok eU j)(Q:aT D e=some (.map (some p)))(az:aT D F=some X)(kn:X=cB key)(ac:C[b]?=some (mp p cB s t))(S:key.length=s) :
    aV i D C (.lookup Y e F true) aX (.tuple #[(ye t key).getD eU,.bool (ye t key).isSome]):=fun ok l j V W _ _ _ _=>by
  have G:=auo (j:=j) cF R ce (W.cC _ (eF ac)) S true
  subst kn
  exact RU
def aL.one{ak:Array Oper}{fT:bW→List aB→Prop}{c6:List Nat}{bv:List (Nat×Bool)}{bN:List aB}{X:Value}{l3 k:Nat}{bZ:List (List Value)}{jo:Oper}(ac:ak[k]?=some jo)(ao:∀ y,jo.dst=some y→Nat.blt y i.s=true)(W:ax i C X l3 bZ)(c:X.oneCell'=true→aL i ak fT c6 ((k,true) :: bv) D bN C):aL i ak fT c6 ((k,true) :: bv) D bN C :=
  ⟨jo,ac,ao,fun ok l j V ci=>by
    obtain ⟨v,bw,_,S⟩:=c (zW (W ok j ci))
    rw [ac] at bw;cases bw
    exact S ok l j V ci⟩
end
end Go.LK
namespace Go.LK
open Go Go.RowKit
end Go.LK
