/-
  Rules and plain laws that the walks use.
-/
import Derived.Test.YtohjlkjhpibkmaaGreatDoorE31
import Derived.Test.YtohjlkjhpibkmaaGreatDoorE27
import Derived.KernelRfl
import Derived.Test.YtohjlkjhpibkmaaGreatDoorE16
import Derived.Test.YtohjlkjhpibkmaaGreatDoorE26
import Derived.Test.YtohjlkjhpibkmaaGreatDoorE20
set_option linter.all false
namespace Go.LK.g
open Go Go.LK
def agR{f:List cj}(c:dd.wF f=dd.xi 1 1):∃ gq,f=[gq]∧gq.of=[1,4,10,1,64,20,1,4,10,5,1,3,2]∧gq.cW=[]:=by
  match f,c with
  | [],c=>simp [dd.wF,dd.xi] at c
  | [gq],c =>
    simp only [dd.wF,dd.xi,dd.Bj,kO,Lb,rm,List.range_zero,lK,oR,and_true,tr] at c
    exact ⟨gq,rfl,c.1,by simpa using c.2⟩
  | _ :: _ :: _,c=>simp [dd.wF,dd.xi,rm] at c
def agQ{Y:Nat}{gq:cj}:∀ j,(c1 ([gq].map (cj.row Y))).holds j→(hZ ([({ gq with bV:=1 }:cj)].map cj.bF)).holds j∧∀ d∈(hZ ([({ gq with bV:=1 }:cj)].map cj.bF)).dT,d∈(c1 ([gq].map (cj.row Y))).dT:=au_ (Y:=Y) (f:=[gq])
def agM{gq:cj}(aw:gq.of=[1,4,10,1,64,20,1,4,10,5,1,3,2])(aS:gq.cW=[]):dd.nv 2 4 1000 [{ gq with bV:=1 }]=0:=by
  have S:dV.loops (f_ [({ gq with bV:=1 }:cj)])=0:=by
    unfold f_
    simp only [kO,Lb,aS]
    exact dV.O_ (v:=[0]) aN
  have R:dd.rE 2 4 [({ gq with bV:=1 }:cj)] [({ gq with bV:=1 }:cj)].length=true:=by
    simp only [cj.of,oR,and_true] at aw
    obtain ⟨bB,G,J,aA,aZ,bT,c7,gi,dL,h2,hN,lR,nc⟩:=aw
    unfold dd.rE
    simp only [e6,fq,rm,List.range_zero,lK,k8,ri,jV,DE,cj.of,bB,J,aA,aZ,bT,c7,gi,dL,h2,hN,lR,nc,aS]
    kernel_rfl
  exact (ee (by rw [R];rfl)).trans S
def agP{gq:cj}(aw:gq.of=[1,4,10,1,64,20,1,4,10,5,1,3,2])(aS:gq.cW=[]):yM 2 4 1000 [{ gq with bV:=1 }] 0=true:=Jt.2 ⟨agM aw aS,by decide,by simp⟩
structure zu (h:b3):Prop where
  Gn:h.al=0
  ap:h.ap=8
  b1:h.b1=1
  hD:h.hD=1
  bb:h.bb=[]
def agO{h:b3}{N:aO}{gq r:cj}(aw:gq.of=[1,4,10,1,64,20,1,4,10,5,1,3,2])(aS:gq.cW=[])(aC:([({ gq with bV:=1 }:cj)]:List cj)[(0:Int).toNat]?=some r)(c:BJ h N 2 4 0 r):zu h:=by
  cases aC
  simp only [cj.of,oR,and_true] at aw
  exact ⟨c.Gn,by rw [c.ap];decide,by rw [c.b1];exact aw.1,c.hD,by rw [c.bb];exact aS⟩
structure xH (h:b3) (q:cu) (bz:List Int) (A:List T) (n:List cp):Prop where
  x:q.x=0
  aa:q.d.aa=8
  bz:∀ d∈q.bz,d∈bz
  A:q.A=A
  n:q.n=n
def mZ(id am:Int):T:=⟨id,am,-1,50,9,0,id⟩
section
variable {h:b3} {N iG:aO} {q:cu} {a_:List aK} {aH:List bk} {r:Int} {bz:List Int} {A:List T} {n:List cp}
def agS{gq:cj}(bf:zu h)(j8:h.bC)(c:BJ h N 2 4 0 gq):xH h (cK h N) [] [] [cp.zero]∧(cK h N).aY=0:=by
  rw [HR j8 c]
  exact ⟨⟨rfl,bf.ap,fun _ c=>c,rfl,by rw [bf.b1];rfl⟩,rfl⟩
def Qj{e:T}:eL [e]=[e]:=by simp [eL]
def MC(bf:zu h){id am:Int}(c:1≤id∧id≤3∧0≤am∧am≤7):nJ h id (-1) 0 am 50 9=true:=by
  unfold nJ
  rw [C_.2 ⟨by omega,by omega,by omega,by omega,by omega,by omega⟩,bf.Gn,bf.ap]
  simp;omega
def agN{am:Int}(c:0≤am∧am≤7):iU 0 8 am 50=0:=by
  unfold iU ab.r6
  rw [be bd,ee]
  rw [c9 c.1,c9 (show am < 8 from by omega)];rfl
def Pv{f:List Int}{t:Nat}{id d:Int}(c:d∈gJ f t id):d∈f∨d=id:=by
  unfold gJ at c
  split at c
  · exact .inl c
  · have:=K3 c
    simpa using this
def agI(bf:zu h)(j8:h.bC)(aW:N.bC h)(kW:iG.bC h)(bI:xH h (cK h N) [] [] [cp.zero])(bh:(cK h N).aY=0)(c:sp h N 1 (-1) 0 2 50 9 iG a_ aH r) :
    r=0∧a_.length=2∧xH h (cK h iG) [1] [] [⟨mZ 1 2,1,[]⟩]∧(cK h iG).aY=1:=by
  have az:=c.F j8 aW kW
  have cN:oI (cK h N) 1=false:=by
    unfold oI;rw [bI.A,bI.n]
    have:(1:Int)∉(cK h N).bz:=fun c=>by have:=bI.bz 1 c;simp at this
    exact RV
  rw [PU (MC bf ⟨by decide,by decide,by decide,by decide⟩) cN Rd abe] at az
  have bc:nw [cp.zero]=some 0:=by decide
  unfold fx at az
  dsimp only at az
  rw [bI.A,bI.n,bI.x,bh,Qj,JG bc] at az
  simp only [lj,qQ,tr] at az
  obtain ⟨G,J,aA,aZ⟩:=az
  rw [←G,←J,←aZ]
  exact ⟨rfl,rfl,⟨rfl,bI.aa,fun d R=>by rcases Pv R with c|c;exact absurd (bI.bz d c) oU;simp [c],rfl,rfl⟩,rfl⟩
def agJ(bf:zu h)(j8:h.bC)(aW:N.bC h)(kW:iG.bC h)(bI:xH h (cK h N) [1] [] [⟨mZ 1 2,1,[]⟩])(bh:(cK h N).aY=1)(c:sp h N 2 (-1) 0 3 50 9 iG a_ aH r) :
    r=0∧a_.length=1∧xH h (cK h iG) [1,2] [mZ 2 3] [⟨mZ 1 2,1,[]⟩]∧(cK h iG).aY=2:=by
  have az:=c.F j8 aW kW
  have cN:oI (cK h N) 2=false:=by
    unfold oI;rw [bI.A,bI.n]
    have:(2:Int)∉(cK h N).bz:=fun c=>by have:=bI.bz 2 c;simp at this
    exact RV
  rw [PU (MC bf ⟨by decide,by decide,by decide,by decide⟩) cN Rd abe] at az
  have bc:nw [(⟨mZ 1 2,1,[]⟩:cp)]=none:=by decide
  unfold fx at az
  dsimp only at az
  rw [bI.A,bI.n,bI.x,bh,Qj,JF bc] at az
  simp only [tr] at az
  obtain ⟨G,J,aA,aZ⟩:=az
  rw [←G,←J,←aZ]
  exact ⟨rfl,rfl,⟨rfl,bI.aa,fun d R=>by rcases Pv R with c|c;exact oS [2] (bI.bz d c);simp [c],rfl,rfl⟩,rfl⟩
def agK(bf:zu h)(j8:h.bC)(aW:N.bC h)(kW:iG.bC h)(bI:xH h (cK h N) [1,2] [mZ 2 3] [⟨mZ 1 2,1,[]⟩])(bh:(cK h N).aY=2)(c:sp h N 3 (-1) 0 1 50 9 iG a_ aH r) :
    r=0∧a_.length=2∧a_[1]?=some ⟨4,0,0,2,5,3,0⟩∧xH h (cK h iG) [1,2,3] [mZ 3 1] [⟨mZ 1 2,1,[]⟩]:=by
  have az:=c.F j8 aW kW
  have cN:oI (cK h N) 3=false:=by
    unfold oI;rw [bI.A,bI.n]
    have:(3:Int)∉(cK h N).bz:=fun c=>by have:=bI.bz 3 c;simp at this
    exact RV
  rw [Yz (F:=mZ 2 3) (MC bf ⟨by decide,by decide,by decide,by decide⟩) cN Rd abe (by rw [bI.A,bI.x,bh];rfl)] at az
  have bc:nw [(⟨mZ 1 2,1,[]⟩:cp)]=none:=by decide
  have a6:((⟨3,1,-1,50,9,0,2+1⟩:T) :: [mZ 2 3]).filter (fun aI=>decide (aI.id≠(mZ 2 3).id))=[mZ 3 1]:=rfl
  unfold fx at az
  dsimp only at az
  rw [bI.A,bI.n,bI.x,bh,a6,Qj,JF bc] at az
  simp only [tr] at az
  obtain ⟨G,J,aA,aZ⟩:=az
  rw [←G,←J,←aZ]
  exact ⟨rfl,rfl,by rw [bf.Gn];rfl,⟨rfl,bI.aa,fun d R=>by rcases Pv R with c|c;exact oS [3] (bI.bz d c);simp [c],rfl,rfl⟩⟩
def agL(bf:zu h)(j8:h.bC)(aW:N.bC h)(kW:iG.bC h)(bI:xH h (cK h N) bz [mZ 3 1] [⟨mZ 1 2,1,[]⟩])(c:tA h N 1 iG a_ aH r) :
    r=0∧(∃ z,aH=[z]∧z.og=1)∧((fJ h.b1 iG.af iG.cX).filter fun Z=>decide (Z.bg≠0)).length=1:=by
  have az:=c.F j8 aW kW
  have ad:l1 h (cK h N).d (cK h N).y (mZ 1 2) (cK h N).x=(0,[]):=by unfold l1;rw [bf.bb];rfl
  rw [Ui (Z:=⟨mZ 1 2,1,[]⟩) (b:=0) (c0:=(cK h N).bb) (a_:=[]) (aH:=[]) (by rw [bI.n];decide) (by rw [bI.n];rfl) rfl (by show ¬(l1 h (cK h N).d (cK h N).y (mZ 1 2) (cK h N).x).1≠0;rw [ad];decide) (by unfold m_;show rD h _ _ (l1 h (cK h N).d (cK h N).y (mZ 1 2) (cK h N).x).2 _=_;rw [ad];rfl)] at az
  have bc:nw [cp.zero]=some 0:=by decide
  unfold fx at az
  dsimp only at az
  rw [bI.A,bI.n,show ([(⟨mZ 1 2,1,[]⟩:cp)]).set 0 cp.zero=[cp.zero] from rfl,JG bc] at az
  simp only [lj,qQ,tr] at az
  obtain ⟨G,J,aA,aZ⟩:=az
  refine ⟨aZ.symm,⟨_,aA.symm,rfl⟩,?_⟩
  have bT:fJ h.b1 iG.af iG.cX=(cK h iG).n:=rfl
  rw [bT,←G];rfl
end
end Go.LK.g
namespace Go.Proofs.YtohjlkjhpibkmaaGreatDoor
open Go Go.LK Go.Proofs.Tryz
set_option maxRecDepth 100000
set_option maxHeartbeats 4000000
def as_(br:Value)(f:List Int)(gi:f.length=7):M prog 75 #[br] [bF br 1 (f.map bH)] [] (fun m B=>m=.agg (f.map tj).toArray∧B=[]):=by
 refine M.aM func75 a ntmps75 a fun an=>?_
 refine I 1 ?_
 intros
 refine K.fD 22 Tryz.bE aN ?_
 refine aD 0 ?_
 obtain ⟨bP,dJ⟩:=c4 (f:=f) (b:=0) E
 refine aD 2 ?_
 obtain ⟨cP,il⟩:=c4 (f:=f) (b:=1) E
 refine aD 2 ?_
 obtain ⟨cQ,h3⟩:=c4 (f:=f) (b:=2) E
 refine aD 2 ?_
 obtain ⟨dZ,ji⟩:=c4 (f:=f) (b:=3) E
 refine aD 2 ?_
 obtain ⟨eE,jj⟩:=c4 (f:=f) (b:=4) E
 refine aD 2 ?_
 obtain ⟨na,qq⟩:=c4 (f:=f) (b:=5) E
 refine aD 2 ?_
 obtain ⟨hL,sL⟩:=c4 (f:=f) (b:=6) E
 refine aF ?_
 exact aO ⟨(by rw [h7.apl gi dJ il h3 ji jj qq sL];rfl),a⟩
def as'(br:Value):M prog 75 #[br] [bF br 1 (([1,4,10,5,1,3,2]:List Int).map bH)] [] (fun m B=>m=.agg #[.b 1,.b 4,.b 10,.b 5,.b 1,.b 3,.b 2]∧B=[]):=as_ br [1,4,10,5,1,3,2] rfl
def atj(s:Nat)(dL:s≤8):M prog 31 #[.b (s:Int)] [] [] (fun m B=>∃ (X:Value) (f:List cj),m=.agg #[.b 2,.b 4,.b 1000,.int .u64 1,X]∧dd.wF f=dd.xi s s∧B=[row X 56 14 (f.map cj.cells),c1 (f.map (cj.row 136))]):=by
 refine M.aM func31 a ntmps31 a fun an=>K.eV 2 a ?_
 refine w.f (aq.iS HN a) a ?_
 rintro _ _ ⟨b9,rfl,rfl⟩
 refine w.e1 3 a ?_
 refine aD 1 ?_
 refine w.f (aq.iS HN a) a ?_
 rintro _ _ ⟨cS,rfl,rfl⟩
 refine w.cq (aq.dC 0 sizeOf25 a a a a a a a) ?_
 rintro _ _ rfl
 refine w.dw 3 a<|K.apQ (([]:List cj).map (cj.row 136)) a<|K.fC 4 a<|K.lC 56 14 ?_
 refine de (bo:=Nat×Value×List cj) (fun (d,X,f)=>d≤s∧dd.wF f=dd.xi s d∧f.length=d) (fun (d,X,f)=>[(4,.b (d:Int))]) (fun (d,X,f)=>[c1 (f.map (cj.row 136)),ai cS [.b 2,.b 4,.b 1000,.int .u64 1,X] 25,row X 56 14 (f.map cj.cells)]) (fun (d,X,f)=>s-d) ⟨0,Value.slice none 0 0,([]:List cj)⟩ [0,2,3] ⟨by omega,rfl,rfl⟩ ?_
 rintro ⟨d,X,f⟩ ⟨R,ao,hlk⟩
 refine aU ?_ ?_
 refine I 0 ?_
 intros
 refine w.f (aq.fs bH [1,4,10,5,1,3,2] gz dt iF a a a aN a a) a ?_
 rintro fd _ rfl
 refine P as' ?_
 refine aU ?_ ?_
 refine I 3 ?_
 intro sF _
 refine w.f (aq.fs cG.cells [(⟨(d:Int)+1,0,6,20⟩:cG)] xV zL zeroValue136 a a a aN a a) a ?_
 rintro j1 _ rfl
 refine w.fg 136 4 (([]:List cG).map cG.cells) a ?_
 refine aD 1 ?_
 intro k'
 refine w.one (ax.row 0 a) (fun va=>?_)
 refine w.cq (aq.gy 2 sizeOf54 va a a a a) ?_
 rintro _ _ rfl
 refine w.nil ?_
 refine K.one (ax.row 0 a) (fun kn=>?_)
 refine I 2 ?_
 refine w.f (aq.fs cj.cells [(⟨1,4,10,1,64,20,1,4,10,5,1,3,2,k',([]:List cG)++([(⟨(d:Int)+1,0,6,20⟩:cG)]),kn⟩:cj)] st tN HQ a a a (by cases k'<;>first|(simp [Value.oneCell'] at kn;done)|kernel_rfl) a a) a ?_
 rintro qg _ rfl
 refine aD 1 ?_
 intro mX
 refine w.one (ax.row 7 a) (fun vb=>?_)
 refine w.cq (aq.gy 6 sizeOf23 vb a a a a) ?_
 rintro _ _ rfl
 refine w.dw 2 a<|K.hv (B:=[c1 ((f++([(⟨1,4,10,1,64,20,1,4,10,5,1,3,2,k',([]:List cG)++([(⟨(d:Int)+1,0,6,20⟩:cG)]),kn⟩:cj)])).map (cj.row 136)),row qg 56 14 (([(⟨1,4,10,1,64,20,1,4,10,5,1,3,2,k',([]:List cG)++([(⟨(d:Int)+1,0,6,20⟩:cG)]),kn⟩:cj)]).map cj.cells),row j1 136 4 (([(⟨(d:Int)+1,0,6,20⟩:cG)]).map cG.cells),ai sF [.b 1,.b 4,.b 10,.b 1,.b 64,.b 20,.b 1,.b 4,.b 10,.b 5,.b 1,.b 3,.b 2,k'] 56,row fd 3 1 (([1,4,10,5,1,3,2]).map bH),ai cS [.b 2,.b 4,.b 1000,.int .u64 1,mX] 25,row mX 56 14 ((f++([(⟨1,4,10,1,64,20,1,4,10,5,1,3,2,k',([]:List cG)++([(⟨(d:Int)+1,0,6,20⟩:cG)]),kn⟩:cj)])).map cj.cells),ai b9 [.b 0,.b 0,.b 0,.int .u64 0,Value.slice none 0 0] 25]) (a'.trans (a'.bz [1,5,0,2,3,4,6,7,8] a) (dd.Zj a a)) ?_
 refine I 1 ?_
 exact da ⟨d+1,mX,f++([(⟨1,4,10,1,64,20,1,4,10,5,1,3,2,k',([]:List cG)++([(⟨(d:Int)+1,0,6,20⟩:cG)]),kn⟩:cj)])⟩ ⟨by omega,dd.ZN ao (dd.awC E).symm,GY⟩
 intro sF _
 refine aD 0 ?_
 refine w.fg 136 4 (([]:List cG).map cG.cells) a ?_
 refine I 2 ?_
 refine w.f (aq.fs cj.cells [(⟨1,4,10,1,64,20,1,4,10,5,1,3,2,Value.slice none 0 0,([]:List cG),a⟩:cj)] st tN HQ a a a aN a a) a ?_
 rintro pA _ rfl
 refine aD 1 ?_
 intro wt
 refine w.one (ax.row 6 a) (fun Cw=>?_)
 refine w.cq (aq.gy 5 sizeOf23 Cw a a a a) ?_
 rintro _ _ rfl
 refine w.dw 2 a<|K.hv (B:=[c1 ((f++([(⟨1,4,10,1,64,20,1,4,10,5,1,3,2,Value.slice none 0 0,([]:List cG),a⟩:cj)])).map (cj.row 136)),row pA 56 14 (([(⟨1,4,10,1,64,20,1,4,10,5,1,3,2,Value.slice none 0 0,([]:List cG),a⟩:cj)]).map cj.cells),ai sF [.b 1,.b 4,.b 10,.b 1,.b 64,.b 20,.b 1,.b 4,.b 10,.b 5,.b 1,.b 3,.b 2,Value.slice none 0 0] 56,row fd 3 1 (([1,4,10,5,1,3,2]).map bH),ai cS [.b 2,.b 4,.b 1000,.int .u64 1,wt] 25,row wt 56 14 ((f++([(⟨1,4,10,1,64,20,1,4,10,5,1,3,2,Value.slice none 0 0,([]:List cG),a⟩:cj)])).map cj.cells),ai b9 [.b 0,.b 0,.b 0,.int .u64 0,Value.slice none 0 0] 25]) (a'.trans (a'.bz [1,4,0,2,3,5,6,7] a) (dd.Zj a a)) ?_
 refine I 1 ?_
 exact da ⟨d+1,wt,f++([(⟨1,4,10,1,64,20,1,4,10,5,1,3,2,Value.slice none 0 0,([]:List cG),a⟩:cj)])⟩ ⟨by omega,dd.ZN ao (dd.awB E).symm,GY⟩
 refine I 1 ?_
 intros
 refine w.one (ax.row 2 a) (fun ID=>?_)
 refine aF ?_
 exact aO ⟨X,f,a,(by rw [ao,show d=s from by omega]),a⟩
def aoX :M prog 10 #[] [] [] (fun m B=>m=.bool true∧B=[]):=by
 refine M.aM func10 a ntmps10 a fun an=>?_
 refine P atj ?_
 rintro _ _ ⟨X,f,rfl,ao,rfl⟩
 obtain ⟨gq,rfl,qt,OI⟩:=g.agR ao
 refine I 1 ?_
 intros
 refine w.one (ax.row 1 a) (fun Ad=>?_)
 refine w.cq (aq.dC 0 sizeOf25 a a a a a (by simp only [k8,ri,jV,Ad]<;>rfl) a) ?_
 rintro _ _ rfl
 refine w.dw 2 a ?_
 refine K.one (ax.row 1 a) (fun kn=>?_)
 refine I 1 ?_
 have h3:([gq])[0]?=some gq:=rfl
 refine aD 1 ?_
 refine w.cq (aq.jS 1 (k:=0) (off:=1) (ae:=[.b 1]) (r:=[gq.bK,gq.bV,gq.b8,gq.bG,gq.ch,gq.b',gq.cf,gq.er,gq.es,gq.d',gq.eO,gq.eP,gq.eQ,gq.dA]) ({ gq with bV:=1 }) a a a a E h3 a dt a a a a a) ?_
 rintro _ _ rfl
 refine I 1 ?_
 refine w.f (aq.fl call23 (XA 2 4 1000 1 X [({ gq with bV:=1 }:cj)] 0 kn oU (by simp [OI]) (g.agP qt OI)) [] a a (.eo 1 jz a a (.eo 2 (g.agQ (Y:=136)) a a .nil))) a ?_
 rintro _ _ ⟨_,⟨h,xY,r,aC,bf,hZ0,mJ,hsvs,rfl,rfl⟩,rfl⟩
 have E5:=g.agO qt OI aC mJ
 obtain ⟨Iy,jv⟩:=g.agS E5 bf mJ
 refine I 1 ?_
 intros
 refine K.lH ?_
 refine aD 1 ?_
 refine w.n (U.oz [(0,.b 2),(1,.b 3),(2,.b 1)] [.b 2,.b 3,.b 1] qP zeroValue95 dt a aN) a ?_
 refine I 0 ?_
 refine w.n (U.I6 (ay:=[.b 2,.b 3,.b 1]) qP dt ds a a bd bd a) a ?_
 refine P (JA h xY 0 1 (-1) 0 2 50 9 bf hZ0 (g.Pa mJ)) ?_
 rintro _ _ ⟨af_,E9,F10,es11,fs12,e13,hR14,rfl,rfl⟩
 obtain ⟨nz,V9,z8,sR⟩:=g.agI E5 bf hZ0 hR14.1 Iy jv hR14.2.2
 refine I 1 ?_
 intros
 refine w.one (ax.row 1 a) (fun ID=>?_)
 refine w.one (ax.row 2 a) (fun NO=>?_)
 refine I 2 ?_
 refine w.n (U.jx 0 zF o2 a a bd bd a) a ?_
 refine I 1 ?_
 refine K.fZ a (p4 (fun au=>au nz)) ?_
 refine I 0 ?_
 refine w.n (U.hJ a a bd) a ?_
 refine I 0 ?_
 refine K.again ?_
 refine aD 1 ?_
 refine w.n (U.oz [(0,.b 2),(1,.b 3),(2,.b 1)] [.b 2,.b 3,.b 1] qP zeroValue95 dt a aN) a ?_
 refine I 0 ?_
 refine w.n (U.I6 (ay:=[.b 2,.b 3,.b 1]) qP dt ds a a bd bd a) a ?_
 refine P (JA h af_ 1 2 (-1) 0 3 50 9 bf hR14.1 hR14.2.1) ?_
 rintro _ _ ⟨af0,Su,F21,es22,fs23,lP,hR25,rfl,rfl⟩
 obtain ⟨dJ,V_,ajP,Ov⟩:=g.agJ E5 bf hR14.1 hR25.1 z8 sR hR25.2.2
 refine I 1 ?_
 intros
 refine w.one (ax.row 1 a) (fun NR=>?_)
 refine w.one (ax.row 2 a) (fun azN=>?_)
 refine I 2 ?_
 refine w.n (U.jx 2 zF o2 a a bd bd a) a ?_
 refine I 1 ?_
 refine K.fZ a (p4 (fun au=>au dJ)) ?_
 refine I 0 ?_
 refine w.n (U.hJ a a bd) a ?_
 refine I 0 ?_
 refine K.again ?_
 refine aD 1 ?_
 refine w.n (U.oz [(0,.b 2),(1,.b 3),(2,.b 1)] [.b 2,.b 3,.b 1] qP zeroValue95 dt a aN) a ?_
 refine I 0 ?_
 refine w.n (U.I6 (ay:=[.b 2,.b 3,.b 1]) qP dt ds a a bd bd a) a ?_
 refine P (JA h af0 2 3 (-1) 0 1 50 9 bf hR25.1 hR25.2.1) ?_
 rintro _ _ ⟨af3,aec,F32,es33,fs34,e35,hR36,rfl,rfl⟩
 obtain ⟨il,alt,aAD,ajQ⟩:=g.agK E5 bf hR25.1 hR36.1 ajP Ov hR36.2.2
 refine I 1 ?_
 intros
 refine w.one (ax.row 1 a) (fun aj1=>?_)
 refine w.one (ax.row 2 a) (fun azU=>?_)
 refine I 2 ?_
 refine w.n (U.jx 4 zF o2 a a bd bd a) a ?_
 refine I 1 ?_
 refine K.fZ a (p4 (fun au=>au il)) ?_
 refine I 0 ?_
 refine w.n (U.hJ a a bd) a ?_
 refine I 0 ?_
 refine K.again ?_
 refine P (Xy h af3 3 1 bf hR36.1 hR36.2.1) ?_
 rintro _ _ ⟨af5,E42,F43,es44,fs45,Na,hR47,rfl,rfl⟩
 obtain ⟨h3,⟨sE,At,OG⟩,pb⟩:=g.agL E5 bf hR36.1 hR47.1 ajQ hR47.2.2
 have pR:fs45[0]?=some sE:=by rw [At];rfl
 refine I 1 ?_
 intros
 refine w.one (ax.row 1 a) (fun azX=>?_)
 refine w.one (ax.row 2 a) (fun aj4=>?_)
 refine I 1 ?_
 refine w.el (U.dg (U.jx 0 zF o2 a a bd bd a)) a a ?_
 refine aD 2 ?_
 refine w.od 54 a (c9 (by rw [V9];rfl))<|w.el (U.dg (U.jx 2 zF o2 a a bd bd a)) a a ?_
 refine aD 2 ?_
 refine w.od 61 a (c9 (by rw [V_];rfl))<|w.el (U.dg (U.jx 4 zF o2 a a bd bd a)) a a ?_
 refine aD 2 ?_
 refine w.od 68 a (c9 (by rw [alt];rfl))<|w.el (U.dg (U.jx 4 zF o2 a a bd bd a)) a a ?_
 refine aD 3 ?_
 refine w.el (U.dg (U.build [(0,.b 4),(3,.b 2),(4,.b 5),(5,.b 3)] [.b 4,.b 0,.b 0,.b 2,.b 5,.b 3,.b 0] #[(0,1),(1,1),(2,1),(3,1),(4,1),(5,1),(6,1)] runUnderlying51 HP (X4 BP) a aN)) a a<|w.el (U.dg (U.Ut [(⟨4,0,0,2,5,3,0⟩:aK).iz,(⟨4,0,0,2,5,3,0⟩:aK).h1,(⟨4,0,0,2,5,3,0⟩:aK).H,(⟨4,0,0,2,5,3,0⟩:aK).id,(⟨4,0,0,2,5,3,0⟩:aK).code,(⟨4,0,0,2,5,3,0⟩:aK).l,(⟨4,0,0,2,5,3,0⟩:aK).p] [4,0,0,2,5,3,0] BP stoodInHeld51 eqGuardType51 (UC BP) a a a a)) a a ?_
 refine I 0 ?_
 refine w.od 77 a kf ?_
 refine I 0 ?_
 refine w.od 81 a (c9 h3) ?_
 refine aD 2 ?_
 refine w.od 87 a (c9 (by rw [At];rfl)) ?_
 refine I 1 ?_
 refine w.el (aV.jy xT B8 a (ax.row 2 a) pR a kf) a a ?_
 refine I 0 ?_
 refine w.el (aV.le ds (ax.row 2 a) pR 10 a E a) a a ?_
 refine I 0 ?_
 refine w.od 96 a (c9 OG) ?_
 refine P (Xz h af5 bf hR47.1) ?_
 rintro aBi _ ⟨C5,pc,rfl⟩
 have Ol:=dz List.length pc
 rw [fc,pb] at Ol
 refine aF ?_
 exact aO ⟨(by rw [show ((C5.length:Nat):Int)=1 from by omega];rfl),a⟩
def aoY(p i Z:Int)(h_:Nat)(ej:Value)(f:List cj)(ky:Value)(la:List ou):M prog 9 #[.agg #[p,i,Z,.int .u64 (Nat.cast h_:Int),ej],ky] [bF ej 14 (f.map cj.cells),hZ (f.map cj.bF),bF ky 24 (la.map ou.cells)] [] (fun m B=>∃ A,m=.bool A∧(A=true→dd.Uy f∧la.length≤150)∧B=[]):=by
 refine M.aM func9 a ntmps9 a fun an=>?_
 refine I 0 ?_
 refine w.one (ax.b0 0 a) (fun n8=>?_)
 refine I 1 ?_
 intros
 refine de (bo:=Nat) (fun d=>d≤f.length∧∀ (b:Nat) (H:cj),b < d→f[b]?=some H→H.cW.length≤10) (fun d=>[(5,.b (d:Int))]) (fun d=>[]) (fun d=>f.length-d) 0 [1,2] ⟨by omega,fun b H c=>absurd c (ts b)⟩ ?_
 rintro d ⟨R,dy⟩
 refine aU (fun e_=>?_) (fun e_=>?_)
 refine aU ?_ ?_
 intros
 refine K.fC 4 a ?_
 obtain ⟨dZ,ji⟩:=c4 (f:=f) (b:=d) E
 refine K.hZ 1 a (ar:=bF dZ.dA 4 (dZ.cW.map cG.cells)) (bx.2 ⟨dZ,eF ji,a⟩) ?_
 refine aU ?_ ?_
 refine aF ?_
 intros
 exact RM
 refine I 1 ?_
 intros
 exact da (d+1) ⟨by omega,dd.aiU dy ji E⟩
 refine aD 2 ?_
 intros
 refine aU (fun j9=>?_) (fun j9=>?_)
 exact adD
 refine aF ?_
 exact RM
 refine aU (fun kM=>?_) (fun kM=>?_)
 exact adD
 refine aF ?_
 exact RM
def at6(h:g.b3)(ah:g.ct)(q:g.cu)(aJ:List Int)(bu:List a7)(l:ou)(ao:g.nW h q aJ bu)(zJ:g.cu)(a_:List aK)(aH:List bk)(r:Int)(az:g.kB h q l=(zJ,a_,aH,r)):M prog 26 #[ah.s,.agg #[l.iz,l.id,l.s_,l.s9,l.dg,l.s',l.s8,l.mx,l.td,l.tb,l.uD,l.og,l.tc,l.hv,l.uB,l.qA,l.uw,l.rb,l.eC,l.fp,l.e_,l.jP,l.iV,l.iW]] [bF ah.ej 14 (h.k1.map cj.cells),bF ah.dA 4 (h.bb.map cG.cells)] (nk h ah q aJ bu) (fun m B=>∃ (dS dK:Value) (l_:g.ct) (dY:List Int) (jn:List a7),m=.tuple #[.agg #[dS,dK],r]∧g.wa h zJ dY aJ jn∧B=nk h (g.ct.as ah l_) zJ dY jn++[row dS 51 7 (a_.map aK.cells),row dK 62 23 (aH.map bk.cells)]):=by
 have au:=at5 h ah q aJ bu l ao
 rw [az] at au;exact au
def aoW(p i Z:Int)(h_:Nat)(ej:Value)(f:List cj)(al:Int)(ky:Value)(la:List ou)(sU:Value.oneCell' ej=true):M prog 7 #[.agg #[p,i,Z,.int .u64 (Nat.cast h_:Int),ej],al,ky] [bF ej 14 (f.map cj.cells),hZ (f.map cj.bF),bF ky 24 (la.map ou.cells),ai 1 (g.te.map vO) 348,ai 0 (g.nl.map tj) 282] [] (fun m B=>m=.bool true∧B=[]):=by
 refine M.aM func7 a ntmps7 a fun an=>?_
 refine aD 2 ?_
 intros
 refine P aoY ?_
 rintro _ _ ⟨fu,rfl,Fc,rfl⟩
 have VW:=Fc
 refine I 0 ?_
 refine K.cond a (fun bT=>?_) (fun bT=>?_)
 have c7:fu=false:=c_ bT
 exact RS
 have dL:fu=true:=c_ bT
 refine I 0 ?_
 refine js (g.yM p i Z f al) (fun h2=>?_) (fun h2=>?_)
 obtain ⟨⟨als,N3⟩,akb⟩:=VW dL
 have S:f.length≤1000:=by omega
 have aS:∀ H∈f,H.cW.length≤1000:=fun H W=>iZ (N3 H W) bd
 refine P XA ?_
 rintro _ _ ⟨h,xY,r,aC,bf,hZ0,mJ,hsvs,rfl,rfl⟩
 refine P (atU p i Z h_ ej f al sU S aS h2 h xY r aC bf mJ hsvs.2) ?_
 rintro _ _ ⟨fS,rfl,hRs,hRc,rfl⟩
 have sT:(List.replicate h.b1.toNat a7.zero).map a7.cL=(g.cK h xY).n:=by rw [g.HR bf mJ];exact g.Yy
 have kY:g.rz (g.cK h xY).d []:=by rw [g.HR bf mJ];exact ⟨rfl,rfl⟩
 refine w.dw 16 a ?_
 refine K.one (ax.row 5 a) (fun al'=>?_)
 refine K.one (ax.row 2 a) (fun al8=>?_)
 refine K.one (ax.row 3 a) (fun amb=>?_)
 refine P (YO h xY (g.ct.as fS fS) ([]:List Int) (List.replicate h.b1.toNat a7.zero) bf hZ0 (g.M8 bf hZ0 (g.Pa mJ) bd sT kY oU) al' al8 amb) ?_
 refine w.dw 7 a<|K.hZ 1 a (ar:=bF r.dA 4 (r.cW.map cG.cells)) (bx.2 ⟨r,eF aC,a⟩) ?_
 refine I 0 ?_
 refine de (bo:=Nat×g.aO×g.ct×List Int×List a7) (fun (b,N,R1,aJ,bu)=>b≤la.length∧N.bC h∧N.hb b∧bu.map a7.cL=(g.cK h N).n∧g.rz (g.cK h N).d aJ∧aJ.length≤64*b) (fun (b,N,R1,aJ,bu)=>[(11,.b (b:Int))]) (fun (b,N,R1,aJ,bu)=>[ai h.s (g.io h N.x N.bS N.aY N.bb) 90,iH h N.d,ll h N.A,gQ h N.af,cw h.hC g.li N.cX,c1 (g.h4 3 N.cX),hF 195 h.j N.dc,fW h N.bz,ai h.k2 (ab.iC h.bD N.y) 215,ai (g.ct.as fS R1).s (g.kt h (g.ct.as fS R1) (g.cK h N)) 125,bF ((g.ct.as fS R1).ae) 1 (((g.cK h N).bz).map bH),row ((g.ct.as fS R1).gK) 3 1 (((g.cK h N).d.S.take h.ap.toNat).map bH),row ((g.ct.as fS R1).eD) 3 1 (aJ.map bH),row ((g.ct.as fS R1).e5) 66 7 (((g.cK h N).A).map T.cells),row ((g.ct.as fS R1).jU) 68 9 (bu.map a7.cells),c1 (bu.map (a7.row 3)),row ((g.ct.as fS R1).fj) 320 2 (((g.cK h N).j).map cI.cells),row ((g.ct.as fS R1).hp) 175 4 ((ab.row (g.cK h N).y).map cR.cells)]) (fun (b,N,R1,aJ,bu)=>la.length-b) ⟨0,xY,fS,([]:List Int),(List.replicate h.b1.toNat a7.zero)⟩ [2,7,9] ⟨by omega,hZ0,g.Pa mJ,sT,kY,by simp⟩ ?_
 rintro ⟨b,N,R1,aJ,bu⟩ ⟨ac,aW,ca,ad,bU,ix⟩
 refine aU ?_ ?_
 refine I 0 ?_
 intros
 obtain ⟨gA,pa⟩:=c4 (f:=la) (b:=b) E
 refine P aoV ?_
 rintro _ _ ⟨Ez,E1,F1,a_,aH,dQ,hR1,rfl,rfl⟩
 have VQ:=g.M8 bf aW ca E ad bU ix
 have az:g.kB h (g.cK h N) gA=(g.cK h Ez,a_,aH,dQ):=hR1.2.2.F bf aW hR1.1
 have gI:=g.aix VQ gA
 rw [az] at gI
 obtain ⟨h9,aAt⟩:a_.length≤1000∧aH.length≤1000:=gI
 refine I 1 ?_
 intros
 refine w.one (ax.row 1 a) (fun ID=>?_)
 refine w.one (ax.row 2 a) (fun NO=>?_)
 refine I 1 ?_
 refine w.A (aV.jy runUnderlying26 sizeOf49 a (ax.b0 2 a) pa a kf) a<|w.A (aV.lX isAgg49 sizeOf49 (ax.b0 2 a) pa 0 a E a) a ?_
 refine w.f (aq.fl call26 (at6 h (g.ct.as fS R1) (g.cK h N) aJ bu gA VQ (g.cK h Ez) a_ aH dQ az) [14,15,16,17,18,19,20,21,22] a a (.og 0 (by rw [show (g.ct.as fS R1).ej=ej from hRs,hsvs.1];exact vI) a (.og 5 (by rw [show (g.ct.as fS R1).dA=r.dA from hRc,mJ.bb];exact vI) a .nil))) a ?_
 rintro _ _ ⟨_,⟨Hn,F2,R2,u1,jl2,rfl,R,rfl⟩,rfl⟩
 refine I 1 ?_
 intros
 refine w.one (ax.row 10 a) (fun Ac=>?_)
 refine w.one (ax.row 11 a) (fun NQ=>?_)
 refine w.cq (aq.dC 0 o2 a a a a a (by simp only [k8,ri,jV,Ac,NQ]<;>rfl) a) ?_
 rintro _ _ rfl
 refine w.dw 3 a ?_
 refine K.one (ax.row 13 a) (fun azf=>?_)
 refine K.one (ax.row 10 a) (fun azg=>?_)
 refine K.one (ax.row 14 a) (fun azh=>?_)
 refine K.one (ax.row 11 a) (fun azi=>?_)
 refine K.one (ax.row 6 a) (fun ama=>?_)
 refine K.one (ax.row 3 a) (fun al9=>?_)
 refine K.one (ax.row 4 a) (fun amc=>?_)
 refine P atv ?_
 refine I 0 ?_
 refine w.kK 86 a oU ?_
 refine P (YO h Ez (g.ct.as fS R2) u1 jl2 bf hR1.1 (g.M8 bf hR1.1 hR1.2.1 E R.n R.b1 (by have au:=R.cd;omega)) ama al9 amc) ?_
 refine I 1 ?_
 exact da ⟨b+1,Ez,R2,u1,jl2⟩ ⟨by omega,hR1.1,hR1.2.1,R.n,R.b1,(by have au:=R.cd;omega)⟩
 exact RS
 obtain ⟨⟨als,N3⟩,akb⟩:=VW dL
 have S:f.length≤1000:=by omega
 have aS:∀ H∈f,H.cW.length≤1000:=fun H W=>iZ (N3 H W) bd
 refine P aqI ?_
 refine P atV ?_
 refine I 0 ?_
 refine K.lN a (c9 (by split<;>first|decide|assumption)) ?_
 refine I 0 ?_
 refine w.n (U.Ps underlying29 a) a ?_
 refine I 0 ?_
 refine w.od 42 a oU ?_
 exact RS
end Go.Proofs.YtohjlkjhpibkmaaGreatDoor
