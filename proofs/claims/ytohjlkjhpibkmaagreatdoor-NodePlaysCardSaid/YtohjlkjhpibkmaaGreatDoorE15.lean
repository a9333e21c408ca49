/-
  Rules and plain laws that the walks use.
-/
import Derived.Test.YtohjlkjhpibkmaaGreatDoorE14
import Derived.Test.YtohjlkjhpibkmaaGreatDoorE03
set_option linter.all false
namespace Go.LK
structure ou where
  iz:Int
  id:Int
  s_:Int
  s9:Int
  dg:Int
  s':Int
  s8:Int
  mx:Int
  td:Int
  tb:Int
  uD:Int
  og:Int
  tc:Int
  hv:Int
  uB:Int
  qA:Int
  uw:Int
  rb:Int
  eC:Int
  fp:Int
  e_:Int
  jP:Int
  iV:Int
  iW:Int
def ou.cells(z:ou):List Value:=[z.iz,z.id,z.s_,z.s9,z.dg,z.s',z.s8,z.mx,z.td,z.tb,z.uD,z.og,z.tc,z.hv,z.uB,z.qA,z.uw,z.rb,z.eC,z.fp,z.e_,z.jP,z.iV,z.iW]
namespace g
section
variable {h:b3} {N iG:aO} {a_:List aK} {aH:List bk} {r:Int}
def sp.rH{l p i y z L:Int}(c:sp h N l p i y z L iG a_ aH r)(aC:r≠0):a_=[]∧aH=[]:=by
  exact Sj
def uR.rH{id:Int}(c:uR h N id iG a_ aH r)(aC:r≠0):a_=[]∧aH=[]:=by
  exact abP
def tA.rH{id:Int}(c:tA h N id iG a_ aH r)(aC:r≠0):a_=[]∧aH=[]:=by
  exact abP
def wk.rH{l p i y z L b:Int}(c:wk h N l p i y z L b iG a_ aH r)(aC:r≠0):a_=[]∧aH=[]:=by
  exact Sj
def wh.rH{l p:Int}{f:List Int}(c:wh h N l p f iG a_ aH r)(aC:r≠0):a_=[]∧aH=[]:=by
  exact Sj
def wn.rH(c:wn h N iG a_ aH r)(aC:r≠0):a_=[]∧aH=[]:=absurd c.1 aC
def wm.rH(c:wm h N iG a_ aH r)(aC:r≠0):a_=[]∧aH=[]:=absurd c.1 aC
end
def L7(h:b3)(N:aO)(l:ou)(iG:aO)(a_:List aK)(aH:List bk)(r:Int):Prop :=
  (l.iz=0∧sp h N l.s_ l.s9 l.dg l.s' l.s8 l.mx iG a_ aH r)∨(l.iz=1∧tA h N l.id iG a_ aH r)∨(l.iz=2∧uR h N l.id iG a_ aH r) ∨
  (l.iz=3∧wk h N l.td l.tb l.uD l.og l.tc l.hv l.uB iG a_ aH r)∨(l.iz=4∧wh h N l.qA l.uw [l.rb,l.eC,l.fp,l.e_,l.jP,l.iV,l.iW] iG a_ aH r) ∨
  (l.iz=5∧wn h N iG a_ aH r)∨(l.iz=6∧wm h N iG a_ aH r)∨(¬(0≤l.iz∧l.iz≤6)∧iG=N∧a_=[]∧aH=[]∧r=0)
end g
end Go.LK
namespace Go.LK
def K.ahh{i:cM}{d:List eH}{D:bW}{C:List aB}{ar b2:aB}(b:Nat)(ac:i.dO[b]?=some b2)(sK:∀ j,b2.holds j→ar.holds j∧∀ d∈ar.dT,d∈b2.dT)(c:K { i with dO:=i.dO++[ar] } d D C):K i d D C:=fun ok l j V W =>
  c (fun cO fL=>by
    rcases iE.1 fL with fL|fL
    · exact ok cO fL
    · obtain rfl:=nm.1 fL
      obtain ⟨G,J⟩:=ok _ (eF ac)
      obtain ⟨aA,aZ⟩:=sK _ G
      exact ⟨aA,fun d R=>J d (aZ d R)⟩) l j V W
structure a7 where
  e:T
  bg:Int
  m:Value
  cr:List Int
  ok:m.oneCell'=true
def a7.cells(k:a7):List Value:=[k.e.id,k.e.am,k.e.cg,k.e.ck,k.e.eN,k.e.dm,k.e.seq,k.bg,k.m]
instance:Coe a7 Go.Value:=⟨fun e=>.agg #[e.e.id,e.e.am,e.e.cg,e.e.ck,e.e.eN,e.e.dm,e.e.seq,e.bg,e.m]⟩
instance:Coe a7 (List Go.Value):=⟨fun e=>[e.e.id,e.e.am,e.e.cg,e.e.ck,e.e.eN,e.e.dm,e.e.seq,e.bg,e.m]⟩
def a7.one{f:List a7}:∀ l∈f,(a7.cells l).all Value.oneCell'=true:=fun l _=>by
  simp only [a7.cells,k8,ri,l.ok];rfl
def a7.row(Y:Nat)(k:a7):aB:=Go.LK.row k.m Y 1 (k.cr.map bH)
def a7.cL(k:a7):g.cp:=⟨k.e,k.bg,k.cr⟩
def a7.Pn{Y:Nat}{f:List a7}{e:a7}:a' [a7.row Y e,c1 (f.map (a7.row Y))] [c1 ((f++[e]).map (a7.row Y))]:=by
  refine g.Cb ?_
  exact acT
namespace g
def C9{u ec:List T}(c:((u++ec).map T.id).Nodup):(u.map T.id).Nodup:=by rw [gR,lm] at c;exact c.1
def w8(ap bm fG dG e9 fi im h' hP:Int):dM:=⟨fG,dG,e9,fi,im,h',hP,ap,1,0,0,bm,32,0,0,0,List.replicate 128 0⟩
structure BJ (h:b3) (N:aO) (p i Gm:Int) (r:cj):Prop where
  Gn:h.al=Gm
  ap:h.ap=dd.jc p i
  b1:h.b1=r.bK
  hD:h.hD=r.bV
  qD:h.qD=r.b8
  bm:h.bm=r.bG
  fW:h.fW=r.ch
  bD:h.bD=r.b'
  bb:h.bb=r.cW
  x:N.x=0
  bS:N.bS=0
  aY:N.aY=0
  cW:N.bb=0
  d:N.d=w8 h.ap h.bm r.cf r.er r.es r.d' r.eO r.eP r.eQ
  A:N.A.u=[]
  aBa:N.A.t=[]
  af:N.af=List.replicate 16 none
  cX:N.cX=[]
  bz:N.bz.C=[]
  aBc:N.bz.t=[]
  cd:N.cd=[]
  y:N.y=ab.nil
def CZ(t:List (Int×bn))(e:T):cp:=q_ t (some (0,e))
def OU{t:List (Int×bn)}{e:T}{k:bn}(c:cx t e.id=some k):CZ t e=⟨e,k.bg,k.cr⟩:=by unfold CZ q_;simp only [c]
def OS{h:b3}{af:fh}{t:List (Int×bn)}{cd:List cI}{dc:hA}(c:gp h af t cd dc):(c5 af).map (CZ t)=(fJ h.b1 af t).filter fun Z=>decide (Z.bg≠0):=by
  rw [←CY c.av]
  unfold fJ
  have G:∀ v∈af.take h.b1.toNat,∀ L e,v=some (L,e)→(q_ t (some (L,e))).bg≠0:=fun v bw L e aC=>by
    subst aC
    obtain ⟨b,ac⟩:=kw.1 (ze bw)
    obtain ⟨_,_,_,J,aA⟩:=un c ac
    rw [aA];exact J
  revert G
  generalize af.take h.b1.toNat=f
  intro G
  induction f with
  | nil=>rfl
  | cons v f b6 =>
    have b6:=b6 fun A a6=>G A (gS _ a6)
    cases v with
    | none =>
      rw [kO,K2 (by simp [q_,cp.zero]),←b6];rfl
    | some A =>
      obtain ⟨L,e⟩:=A
      have J:=G _ p5 L e rfl
      rw [kO,aav abg,←b6];rfl
def qR(y:ab.ht)(bD x:Int)(s:Nat):List cR:=(ab.iA y s).filter (ab.kr bD x)
def ags{y:ab.ht}{bD x:Int}{s:Nat}(aw:s < 8)(c:(ab.get y bD (s:Int) x).2=true):qR y bD x (s+1)=qR y bD x s++[(ab.get y bD (s:Int) x).1]:=by
  unfold ab.get at c ⊢
  rw [show ab.gu (s:Int)=true from by unfold ab.gu;simp;omega,ee rfl,show ((s:Nat):Int).toNat=s from by omega] at c ⊢
  unfold qR ab.iA
  rw [rm,qG,jg]
  cases ao:y s with
  | none=>rw [ao] at c;cases c
  | some d =>
    rw [ao] at c
    dsimp only at c ⊢
    by_cases J:ab.left x d.cC≤bD
    · have aA:ab.kr bD x d=true:=c9 J
      rw [ee J];simp [ao,aA]
    · rw [be J] at c;cases c
def agr{y:ab.ht}{bD x:Int}{s:Nat}(aw:s < 8)(c:(ab.get y bD (s:Int) x).2=false):qR y bD x (s+1)=qR y bD x s:=by
  unfold ab.get at c
  rw [show ab.gu (s:Int)=true from by unfold ab.gu;simp;omega,ee rfl,show ((s:Nat):Int).toNat=s from by omega] at c
  unfold qR ab.iA
  rw [rm,qG,jg]
  cases ao:y s with
  | none=>simp [ao]
  | some d =>
    rw [ao] at c
    dsimp only at c
    by_cases J:ab.left x d.cC≤bD
    · rw [ee J] at c;cases c
    · have aA:ab.kr bD x d=false:=p4 J
      simp [ao,aA]
def agq{y:ab.ht}{bD x:Int}:∀ {s:Nat},(qR y bD x s).length≤s:=fun {s}=>by
  unfold qR ab.iA
  exact iZ (kv _ _) (iZ (Ds _ _) oU)
end g
end Go.LK
namespace Go.LK.g
open Go Go.LK
structure cu where
  x:Int
  bS:Int
  aY:Int
  bb:Int
  d:dM
  bz:List Int
  A:List T
  n:List cp
  j:List cI
  y:ab.ht
def cK(h:b3)(aj:aO):cu:=⟨aj.x,aj.bS,aj.aY,aj.bb,aj.d,aj.bz.C,eL aj.A.u,fJ h.b1 aj.af aj.cX,aj.cd,aj.y⟩
abbrev qe:=cu×List aK×List bk×Int
def fx(h:b3)(q:cu)(a_:List aK)(aH:List bk):qe :=
  ({ q with A:=(lj q.x h.al q.A q.n q.d).1,n:=(lj q.x h.al q.A q.n q.d).2.1,d:=(lj q.x h.al q.A q.n q.d).2.2.1 },a_++(lj q.x h.al q.A q.n q.d).2.2.2,aH,0)
def xk(f:List T):Option T:=f.find? fun F=>f.all fun aI=>!iL aI F
def oI(q:cu)(id:Int):Bool:=decide (id∈q.bz) || (q.A.any fun e=>decide (e.id=id)) || (hd q.n id).isSome
def C4(h:b3)(q:cu)(e:T)(r:aK):qe :=
  if (q.A.length:Int) < h.hD then fx h { q with A:=eL (e :: q.A) } [r] []
  else match xk (e :: q.A) with
    | some F=>fx h { q with A:=eL ((e :: q.A).filter fun aI=>decide (aI.id≠F.id)) } [r,ek q.x h.al (F,5)] [eB h.al q.d (F,5)]
    | none=>(q,[],[],0)
def je(h:b3)(q:cu)(id aE O am a1 bM:Int):qe :=
  if nJ h id aE O am a1 bM=false then (q,[],[],1)
  else if oI q id=true then (q,[⟨2,q.x,h.al,id,0,0,0⟩],[],0)
  else if iU q.x q.d.aa am a1≠0 then
    fx h { q with bz:=gJ q.bz h.fW.toNat id,d:=cY h q.d am } [⟨1,q.x,h.al,id,iU q.x q.d.aa am a1,am,q.d.aa⟩,ek q.x h.al (⟨id,am,aE,a1,bM,q.x,0⟩,iU q.x q.d.aa am a1)] [eB h.al q.d (⟨id,am,aE,a1,bM,q.x,0⟩,iU q.x q.d.aa am a1)]
  else C4 h { q with bz:=gJ q.bz h.fW.toNat id,d:=cY h q.d am,aY:=q.aY+1 } ⟨id,am,aE,a1,bM,q.x,q.aY+1⟩ ⟨1,q.x,h.al,id,0,am,q.d.aa⟩
def pW(h:b3)(q:cu)(b:Nat)(code:Int)(a_:List aK)(aH:List bk):cu×List aK×List bk :=
  ({ q with n:=q.n.set b cp.zero,j:=bj.drop q.j (q.n.getD b cp.zero).e.id },a_++[ek q.x h.al ((q.n.getD b cp.zero).e,code)],aH++[eB h.al q.d ((q.n.getD b cp.zero).e,code)])
def vv(h:b3)(q:cu)(b:Nat)(code:Int)(a_:List aK)(aH:List bk):qe:=fx h (pW h q b code a_ aH).1 (pW h q b code a_ aH).2.1 (pW h q b code a_ aH).2.2
def n5(h:b3)(q:cu)(id:Int):qe:=match hd q.n id with
  | none=>(q,[],[],7)
  | some b=>if (q.n.getD b cp.zero).bg≠1 then (q,[],[],12) else vv h q b 10 [] []
def m_(h:b3)(q:cu)(e:T):Int×List aK×List bk×List Int:=rD h q.x e (l1 h q.d q.y e q.x).2 (q.bb,[],[],[])
def kC(h:b3)(q:cu)(id:Int):qe:=match hd q.n id with
  | none=>(q,[],[],7)
  | some b=>if (q.n.getD b cp.zero).bg≠1 then (q,[],[],12)
    else if (l1 h q.d q.y (q.n.getD b cp.zero).e q.x).1≠0 then vv h q b (l1 h q.d q.y (q.n.getD b cp.zero).e q.x).1 [] []
    else if (m_ h q (q.n.getD b cp.zero).e).2.2.2=[] then vv h { q with bb:=(m_ h q (q.n.getD b cp.zero).e).1 } b 1 (m_ h q (q.n.getD b cp.zero).e).2.1 (m_ h q (q.n.getD b cp.zero).e).2.2.1
    else fx h { q with bb:=(m_ h q (q.n.getD b cp.zero).e).1,n:=q.n.set b ⟨(q.n.getD b cp.zero).e,2,Go.LK.bn.rising (m_ h q (q.n.getD b cp.zero).e).2.2.2⟩,j:=(m_ h q (q.n.getD b cp.zero).e).2.2.2.foldl (fun f F=>bj.add f F (q.n.getD b cp.zero).e.id) q.j } (m_ h q (q.n.getD b cp.zero).e).2.1 (m_ h q (q.n.getD b cp.zero).e).2.2.1
def n9(h:b3)(q:cu)(id aE code aa aP:Int):List aK:=(if (ab.fA q.y aE aa aP q.x).2=true then [⟨8,q.x,h.al,aP,0,aE,aa⟩] else [])++[⟨7,q.x,h.al,id,code,aE,if (bj.dX q.j id).isSome=true then 1 else 0⟩]
def iX(h:b3)(q:cu)(id aE O code aa aP aR:Int):qe :=
  if (mP id aE O code aa aP aR&&decide (O=h.al)&&mo h aE)=false then (q,[],[],1)
  else match bj.dX q.j id with
    | none=>({ q with y:=(ab.fA q.y aE aa aP q.x).1 },n9 h q id aE code aa aP,[],0)
    | some mL=>match hd q.n mL with
      | none=>(q,[],[],0)
      | some b =>
        if jL (q.n.getD b cp.zero).bg (q.n.getD b cp.zero).cr id code≠0 then vv h { q with y:=(ab.fA q.y aE aa aP q.x).1,j:=bj.c8 q.j id } b (jL (q.n.getD b cp.zero).bg (q.n.getD b cp.zero).cr id code) (n9 h q id aE code aa aP) []
        else ({ q with y:=(ab.fA q.y aE aa aP q.x).1,j:=bj.c8 q.j id,n:=q.n.set b ⟨(q.n.getD b cp.zero).e,(q.n.getD b cp.zero).bg,oa (q.n.getD b cp.zero).bg (q.n.getD b cp.zero).cr id⟩ },n9 h q id aE code aa aP,[],0)
def rd(h:b3)(q:cu)(O bS:Int)(ey:List Int):qe :=
  if (qw O (O :: bS :: ey)&&decide (O=h.al))=false then (q,[],[],1)
  else if (decide (q.bS < bS)&&decide (h7.e7 ey h.ap=0))=true then ({ q with bS:=bS,d:=J0 q.d ey },[⟨10,q.x,h.al,bS,1,0,0⟩],[],0)
  else (q,[⟨10,q.x,h.al,bS,0,0,0⟩],[],0)
def AU(q:cu):List T:=(q.n.filter fun Z=>decide (Z.bg≠0)&&decide (Z.e.ck≤q.x)).map cp.e
def pp(h:b3)(Tg:cu):qe :=
  let q:cu:={ Tg with x:=later Tg.x 1 }
  let L:=q.A.filter fun e=>!decide (ew e q.x=0)
  let a_:=(L.map fun e=>ek q.x h.al (e,ew e q.x))++(AU q).map fun F=>ek q.x h.al (F,6)
  let aH:=(L.map fun e=>eB h.al q.d (e,ew e q.x))++(AU q).map fun F=>eB h.al q.d (F,6)
  let Th:cu:={ q with A:=q.A.filter fun e=>decide (ew e q.x=0),n:=q.n.map (sy (AU q)),j:=(AU q).foldl (fun f F=>bj.drop f F.id) q.j }
  if q.x%h.qD=0 then fx h { Th with d:=gs h q.d } (a_++[⟨9,q.x,h.al,(gs h q.d).aP,sx q.d,(gs h q.d).aa,(gs h q.d).aR⟩]) aH else fx h Th a_ aH
def uC(h:b3)(q:cu):qe :=
  ({ q with A:=[],n:=List.replicate h.b1.toNat cp.zero,j:=[],y:=ab.nil,bz:=[],d:=iB h q.d },(q.A++(q.n.filter fun Z=>decide (Z.bg≠0)).map cp.e).map (fun e=>⟨12,q.x,h.al,e.id,0,e.am,0⟩)++[⟨11,q.x,h.al,(iB h q.d).aP,0,(iB h q.d).aa,0⟩],[],0)
def kB(h:b3)(q:cu)(l:ou):qe :=
  if l.iz=0 then je h q l.s_ l.s9 l.dg l.s' l.s8 l.mx else if l.iz=1 then kC h q l.id else if l.iz=2 then n5 h q l.id
  else if l.iz=3 then iX h q l.td l.tb l.uD l.og l.tc l.hv l.uB else if l.iz=4 then rd h q l.qA l.uw [l.rb,l.eC,l.fp,l.e_,l.jP,l.iV,l.iW]
  else if l.iz=5 then pp h q else if l.iz=6 then uC h q else (q,[],[],0)
section
variable {h:b3} {aj bs:aO} {af c':fh} {t dF:List (Int×bn)} {cd hE:List cI} {dc kb:hA} {id:Int} {k eM:bn} {a_:List aK} {aH:List bk} {r:Int} {e:T}
def HY(c:gp h af t cd dc)(bq:cx t id=some k):∃ b,hd (fJ h.b1 af t) id=some b∧(fJ h.b1 af t)[b]?=some ⟨k.e,k.bg,k.cr⟩∧k.bg≠0∧k.e.id=id∧b < h.b1.toNat:=by
  obtain ⟨G,J,aA⟩:=c.k.ff _ _ bq
  obtain ⟨b,L,ac⟩:=WH G
  have bU:b < h.b1.toNat:=by
    rcases mR b h.b1.toNat with aZ|aZ
    · exact aZ
    · exact absurd (c.av b _ aZ ac) oU
  obtain ⟨Jb,aZ,bT,c7,gi⟩:=un c ac
  rw [J,bq] at aZ;cases aZ
  have ad:(fJ h.b1 af t)[b]?=some ⟨k.e,k.bg,k.cr⟩:=by rw [rc,ee bU,ac];exact dz some gi
  refine ⟨b,Co ad (by simp [c7,J]) fun aAN p sP av=>?_,ad,c7,J,bU⟩
  by_cases Ag:p.bg=0
  · simp [Ag]
  · by_cases rP:p.e.id=id
    · have:=JX c av ad Ag c7 (rP.trans J.symm);omega
    · simp [rP]
def MB(c:gp h af t cd dc)(bq:cx t id=none):hd (fJ h.b1 af t) id=none:=by
  refine EK fun b p av=>?_
  obtain ⟨_,v,bw,rfl⟩:=yT av
  cases v with
  | none=>rfl
  | some A =>
    obtain ⟨L,F⟩:=A
    obtain ⟨k,G,_,_,aZ⟩:=un c bw
    rw [aZ]
    have:F.id≠id:=fun aC=>by rw [aC,bq] at G;cases G
    simp [this]
def Tv(c:gp h af t cd dc):(hd (fJ h.b1 af t) id).isSome=(cx t id).isSome:=by
  cases bq:cx t id with
  | none=>rw [MB c bq];rfl
  | some k=>obtain ⟨b,G,_⟩:=HY c bq;rw [G];rfl
def Ir{f:List cp}{b:Nat}{Z:cp}(c:f[b]?=some Z):f.getD b cp.zero=Z:=by rw [ps,c];rfl
def XZ(c:gp h af t cd dc)(bq:cx t id=some k)(Q:eM.e=k.e){b:Nat}(ac:(fJ h.b1 af t)[b]?=some ⟨k.e,k.bg,k.cr⟩)(bB:k.bg≠0):fJ h.b1 af (e' t id eM)=(fJ h.b1 af t).set b ⟨k.e,eM.bg,eM.cr⟩:=by
  obtain ⟨_,J,_⟩:=c.k.ff _ _ bq
  refine xz fun i=>?_
  by_cases aS:b=i
  · subst aS
    rw [xy (dD.1 ac).1]
    obtain ⟨bU,v,bw,aC⟩:=yT ac
    rw [rc,ee bU,bw]
    cases v with
    | none=>exact absurd (dz cp.bg aC) bB
    | some A =>
      obtain ⟨L,F⟩:=A
      obtain ⟨Jb,aA,aZ,bT,c7⟩:=un c bw
      rw [c7] at aC
      have az:F=k.e:=(dz cp.e aC).symm
      simp only [Bx,q_,lQ]
      rw [ee (by rw [az,J])]
      rw [az]
  · rw [tn aS,rc,rc]
    split
    · rename_i bU
      cases bw:af[i]? with
      | none=>rfl
      | some v =>
        refine dz some (OY fun L F r=>?_)
        subst r
        rw [lQ,be]
        intro r
        obtain ⟨Jb,aA,aZ,bT,c7⟩:=un c bw
        have ad:(fJ h.b1 af t)[i]?=some ⟨F,Jb.bg,Jb.cr⟩:=by rw [rc,ee bU,bw];exact dz some c7
        exact aS (JX c ac ad bB bT (J.trans r))
    · rfl
def A2{x:Int}{d cD:dM}{u cU:List T}{hX:List aK}{ls:List T}{q:cu}(c:k_ h x d cD u cU af c' t dF a_ hX ls)(bf:h.bC)(ac:gp h c' dF hE kb)(bc:xK h cU (c5 c'))(Ae:q.x=x∧q.d=d∧q.A=eL u∧q.n=fJ h.b1 af t) :
    fx h q a_ aH=({ q with A:=eL cU,n:=fJ h.b1 c' dF,d:=cD },hX,aH,0):=by
  obtain ⟨G,J,aA,aZ⟩:=Ae
  have bT:=c.done bf ac bc
  unfold fx
  rw [G,J,aA,aZ,bT,c.r]
def JL{aw':List cI}{x:Int}{d cD:dM}{u cU:List T}{hX:List aK}{iw:List bk}{code:Int}{q:cu}(c:Ee h x d cD u cU af c' t dF cd hE a_ hX aH iw e code)(bf:h.bC)(Au:gp h af t aw' dc)(ac:gp h c' dF hE kb){b:Nat}(ft:hd (fJ h.b1 af t) e.id=some b)(Ae:q.x=x∧q.d=d∧q.A=eL u∧q.n=fJ h.b1 af t∧q.j=cd) :
    vv h q b code a_ aH=({ q with A:=eL cU,n:=fJ h.b1 c' dF,d:=cD,j:=hE },hX,iw,0):=by
  obtain ⟨G,J,aA,aZ,bT⟩:=Ae
  obtain ⟨fK,dG,eX,ls,⟨V,av,rfl,rfl,rfl,rfl⟩,bw,bc⟩:=c
  obtain ⟨i,dQ,⟨k,_,bP⟩,cP⟩:=Zw Au V
  rw [ft] at dQ;cases dQ
  unfold vv pW
  rw [aZ,Ir bP]
  dsimp only
  rw [G,J,bT]
  exact A2 (bw) bf ac bc ⟨rfl,rfl,aA,cP.symm⟩
def asN{u:List T}:((eL u).any fun e=>decide (e.id=id))=u.any fun e=>decide (e.id=id):=by
  rw [KM,vV,vV]
  exact ⟨fun ⟨F,G,J⟩=>⟨F,uG.mem_iff.1 G,J⟩,fun ⟨F,G,J⟩=>⟨F,uG.mem_iff.2 G,J⟩⟩
def anu(aW:aj.bC h):oI (cK h aj) id=p1 aj id:=by
  unfold oI p1 cK
  rw [Tv aW.b,asN]
  have G:(aj.A.u.any fun e=>decide (e.id=id))=(cx aj.A.t id).isSome:=by
    cases W:(cx aj.A.t id).isSome with
    | false=>rw [K'];exact fun F az=>by simpa using aW.A.R.yP.1 W F az
    | true =>
      obtain ⟨_,F,G,J,_⟩:=aW.A.R.EN W
      rw [vV];exact ⟨F,eF G,by simpa using J⟩
  have J:decide (id∈aj.bz.C)=(cx aj.bz.t id).isSome:=by
    rw [KM,decide_eq_true_eq];exact (aW.bz.hf.mem id).symm
  rw [G,J]
  cases (cx aj.cX id).isSome<;>cases (cx aj.A.t id).isSome<;>cases (cx aj.bz.t id).isSome<;>rfl
def axa{l p:T}(G:iL l p=false)(J:iL p l=false):l.id=p.id:=by rw [Dr] at G J;omega
def Qz{f hY:List T}{F:T}(ad:hY.Perm f)(aw:(f.map T.id).Nodup)(az:F∈f)(ba:∀ aI∈f,iL aI F=false):xk hY=some F:=by
  unfold xk
  have G:(hY.find? fun F=>hY.all fun aI=>!iL aI F).isSome=true:=by
    rw [List.find?_isSome]
    exact ⟨F,ad.mem_iff.2 az,by rw [rj];exact fun aI ce=>by rw [ba aI (ad.mem_iff.1 ce)];rfl⟩
  obtain ⟨aI,ce⟩:=uK.1 G
  rw [ce]
  have J:=aao ce
  have aA:=ad.mem_iff.1 (KZ ce)
  rw [rj] at J
  have aZ:=J F (ad.mem_iff.2 az)
  have bT:=axa (by simpa using aZ) (ba aI aA)
  obtain ⟨b,ac⟩:=kw.1 az
  obtain ⟨d,R⟩:=kw.1 aA
  have c7:(f.map T.id)[b]?=some F.id:=by rw [hy,ac];rfl
  have gi:(f.map T.id)[d]?=some F.id:=by rw [hy,R,bT];rfl
  obtain ⟨wA,tP⟩:=dD.1 c7
  obtain ⟨is,j4⟩:=dD.1 gi
  have:b=d:=(Lc aw).1 (tP.trans j4.symm)
  subst this;rw [ac] at R;rw [R]
def ajH{f cU:List T}{F:T}(aw:(f.map T.id).Nodup)(ad:(F :: cU).Perm f):cU.Perm (f.filter fun aI=>decide (aI.id≠F.id)):=by
  have G:=(ad.map T.id).nodup_iff.2 aw
  rw [kO,kP] at G
  have J:=ad.filter fun aI=>decide (aI.id≠F.id)
  rw [K2 oU,rk.2] at J
  · exact J
  · intro aI ce
    rw [decide_eq_true_eq];exact fun r=>G.1 (bx.2 ⟨aI,ce,r⟩)
def apk{x:Int}{d cD:dM}{u dR cU:List T}{eX hX:List aK}{iw:List bk}{ls:List T}{q:cu}{kl:aK}(c:zz h x d e u dR [kl] eX [] iw)(bw:k_ h x d cD dR cU af c' t dF eX hX ls)(bf:h.bC)(ac:gp h c' dF hE kb)(bc:xK h cU (c5 c'))(aw:((e :: u).map T.id).Nodup)
    (Ae:q.x=x∧q.d=d∧q.A=eL u∧q.n=fJ h.b1 af t):C4 h q e kl=({ q with A:=eL cU,n:=fJ h.b1 c' dF,d:=cD },hX,iw,0):=by
  obtain ⟨G,J,aA,aZ⟩:=Ae
  subst G;subst J
  unfold C4
  have vm:(e :: q.A).Perm (e :: u):=by rw [aA];exact uG.cons e
  have alI:((e :: q.A).map T.id).Nodup:=FQ vm aw
  rcases c with ⟨S,ad,rfl,rfl⟩|⟨S,F,ad,ba,rfl,rfl⟩
  · rw [ee (by rw [aA,Be];exact S)]
    exact A2 (q:={ q with A:=eL (e :: q.A) }) bw bf ac bc ⟨rfl,rfl,Kq (vm.trans ad.symm) (FQ ad aw),aZ⟩
  · rw [be (by rw [aA,Be];exact S)]
    have az:F∈e :: u:=ad.mem_iff.1 p5
    rw [Qz vm aw az ba]
    dsimp only
    have bq:=ajH alI (ad.trans vm.symm)
    exact A2 (q:={ q with A:=eL ((e :: q.A).filter fun aI=>decide (aI.id≠F.id)) }) bw bf ac bc ⟨rfl,rfl,by
      show eL ((e :: q.A).filter fun aI=>decide (aI.id≠F.id))=eL dR
      exact Kq bq.symm (by have h2:=(ad.map T.id).nodup_iff.2 aw;rw [kO,kP] at h2;exact h2.2),aZ⟩
def sp.F{aE O am a1 bM:Int}(bf:h.bC)(aW:aj.bC h)(kW:bs.bC h)(c:sp h aj id aE O am a1 bM bs a_ aH r):je h (cK h aj) id aE O am a1 bM=(cK h bs,a_,aH,r):=by
  unfold je
  rcases c with ⟨bB,rfl,rfl,rfl,rfl⟩|⟨bB,rfl,⟨dQ,bP,cP,cQ,dZ⟩,eE,c⟩
  · rw [ee bB]
  · rw [be (by rw [bB];decide),anu aW]
    rcases c with ⟨bA,rfl,rfl,na,hL,gU,zT,jG⟩|⟨bA,dR,eX,ls,aS,bw,bc⟩
    · rw [ee bA]
      rw [ee bA] at eE
      unfold cK;rw [dQ,bP,cP,cQ,dZ,eE,na,hL,gU,zT,jG]
    · rw [be (by rw [bA];decide)]
      rw [be (by rw [bA];decide)] at eE
      have Wn:h.fW.toNat=aj.bz.b7.length:=by have:=aW.gQ;omega
      rcases aS with ⟨aS,bh,rfl,rfl,rfl⟩|⟨aS,bh,S⟩
      · rw [ee (show iU (cK h aj).x (cK h aj).d.aa am a1≠0 from aS),Wn]
        refine (A2 bw bf kW.b bc ⟨rfl,rfl,rfl,rfl⟩).trans ?_
        unfold cK;rw [dQ,bP,cP,cQ,dZ,eE,bh];rfl
      · rw [be (show ¬iU (cK h aj).x (cK h aj).d.aa am a1≠0 from fun au=>au aS),Wn]
        rw [aS] at S
        refine (apk S bw bf kW.b bc (by
          rw [kO,kP]
          refine ⟨fun bh=>?_,C9 aW.e8⟩
          obtain ⟨F,az,aC⟩:=bx.1 bh
          exact KA aW bA F (oS _ az) aC) ⟨rfl,rfl,rfl,rfl⟩).trans ?_
        unfold cK;rw [dQ,bP,cP,cQ,dZ,eE,bh]
def uR.F(bf:h.bC)(aW:aj.bC h)(kW:bs.bC h)(c:uR h aj id bs a_ aH r):n5 h (cK h aj) id=(cK h bs,a_,aH,r):=by
  unfold n5
  rcases c with ⟨bq,rfl,W,rfl,rfl⟩|⟨k,bq,c⟩
  · rw [W,show hd (cK h aj).n id=none from MB aW.b bq]
  · obtain ⟨b,G,J,aA,aZ,_⟩:=HY aW.b bq
    rw [show hd (cK h aj).n id=some b from G]
    dsimp only
    rw [show (cK h aj).n.getD b cp.zero=⟨k.e,k.bg,k.cr⟩ from Ir J]
    rcases c with ⟨ad,rfl,rfl,rfl,rfl⟩|⟨ad,rfl,⟨dQ,bP,cP,cQ,dZ,eE⟩,bw⟩
    · rw [ee ad]
    · rw [be (fun au=>au ad)]
      refine (JL bw bf aW.b kW.b (b:=b) (by rw [aZ];exact G) ⟨rfl,rfl,rfl,rfl,rfl⟩).trans ?_
      unfold cK;rw [dQ,bP,cP,cQ,dZ,eE]
def tA.F(bf:h.bC)(aW:aj.bC h)(kW:bs.bC h)(c:tA h aj id bs a_ aH r):kC h (cK h aj) id=(cK h bs,a_,aH,r):=by
  unfold kC
  rcases c with ⟨bq,rfl,W,rfl,rfl⟩|⟨k,bq,c⟩
  · rw [W,show hd (cK h aj).n id=none from MB aW.b bq]
  · obtain ⟨b,G,J,aA,aZ,_⟩:=HY aW.b bq
    rw [show hd (cK h aj).n id=some b from G]
    dsimp only
    rw [show (cK h aj).n.getD b cp.zero=⟨k.e,k.bg,k.cr⟩ from Ir J]
    dsimp only
    rcases c with ⟨ad,rfl,rfl,rfl,rfl⟩|⟨ad,rfl,⟨dQ,bP,cP,dZ,eE⟩,fK,dG,eX,ls,⟨_,aS⟩,bw,bc⟩
    · rw [ee ad]
    · rw [be (fun au=>au ad)]
      have yg:hd (fJ h.b1 aj.af aj.cX) k.e.id=some b:=by rw [aZ];exact G
      rcases aS with ⟨aS,pO,aC⟩|⟨aS,km,pL,c2,g_,Ai⟩
      · rw [ee (show (l1 h (cK h aj).d (cK h aj).y k.e (cK h aj).x).1≠0 from aS)]
        refine (JL (q:=cK h aj) ⟨fK,dG,eX,ls,aC,bw,bc⟩ bf aW.b kW.b (b:=b) yg ⟨rfl,rfl,rfl,rfl,rfl⟩).trans ?_
        unfold cK;rw [dQ,bP,cP,dZ,eE,pO]
      · rw [be (show ¬(l1 h (cK h aj).d (cK h aj).y k.e (cK h aj).x).1≠0 from fun au=>au aS)]
        have IL:m_ h (cK h aj) k.e=(bs.bb,km,pL,c2):=g_
        rw [IL]
        dsimp only
        rcases Ai with ⟨aw,aC⟩|⟨aw,rfl,rfl,rfl,bU,eM,Q,n',gv,rfl⟩
        · rw [ee aw]
          refine (JL (q:={ cK h aj with bb:=bs.bb }) ⟨fK,dG,eX,ls,aC,bw,bc⟩ bf aW.b kW.b (b:=b) yg ⟨rfl,rfl,rfl,rfl,rfl⟩).trans ?_
          unfold cK;rw [dQ,bP,cP,dZ,eE]
        · rw [be aw]
          have AF:=XZ (id:=k.e.id) (eM:=eM) aW.b (by rw [aZ];exact bq) Q J aA
          rw [n',gv] at AF
          refine (A2 bw bf kW.b bc ⟨rfl,rfl,rfl,AF.symm⟩).trans ?_
          unfold cK;rw [dQ,bP,cP,dZ,eE,bU]
def aw1{f:List cI}{i:Int}(c:bj.dX f i=none):bj.c8 f i=f:=by
  induction f with
  | nil=>rfl
  | cons n f b6 =>
    unfold bj.dX at c
    split at c
    · cases c
    · rename_i ad
      have b6:=b6 c
      unfold bj.c8 at b6 ⊢
      rw [aav G2,b6]
def wk.F{aE O code aa aP aR:Int}(bf:h.bC)(aW:aj.bC h)(kW:bs.bC h)(c:wk h aj id aE O code aa aP aR bs a_ aH r):iX h (cK h aj) id aE O code aa aP aR=(cK h bs,a_,aH,r):=by
  unfold iX
  rcases c with ⟨bB,rfl,rfl,rfl,rfl⟩|⟨bB,rfl,⟨dQ,bP,cP,cQ,dZ⟩,eE,eX,nz,c⟩
  · rw [ee bB]
  · rw [be (by rw [bB];decide)]
    rcases c with ⟨ag,rfl,rfl,na,hL,gU,zT,jG⟩|⟨k,ag,bq,c⟩
    · rw [show bj.dX (cK h aj).j id=none from ag]
      rw [aw1 ag] at jG
      dsimp only
      rw [show n9 h (cK h aj) id aE code aa aP=a_ from nz.symm]
      unfold cK;rw [dQ,bP,cP,cQ,dZ,eE,na,hL,gU,zT,jG]
    · rw [show bj.dX (cK h aj).j id=some k.e.id from ag]
      obtain ⟨b,G,J,aA,aZ,_⟩:=HY aW.b bq
      dsimp only
      rw [show hd (cK h aj).n k.e.id=some b from G]
      dsimp only
      rw [show (cK h aj).n.getD b cp.zero=⟨k.e,k.bg,k.cr⟩ from Ir J]
      dsimp only
      rw [show n9 h (cK h aj) id aE code aa aP=eX from nz.symm]
      rcases c with ⟨aS,me,f2,f3,f4,rfl,rfl,eM,Q,n',gv,bh⟩|⟨aS,bw⟩
      · rw [be (fun au=>au aS)]
        have AF:=XZ (eM:=eM) aW.b bq Q J aA
        rw [n',gv] at AF
        unfold cK;rw [dQ,bP,cP,cQ,dZ,eE,me,f2,f3,f4,bh,AF]
      · rw [ee aS]
        refine (JL (q:={ cK h aj with y:=(ab.fA aj.y aE aa aP aj.x).1,j:=bj.c8 aj.cd id }) bw bf aW.b kW.b (b:=b) G ⟨rfl,rfl,rfl,rfl,rfl⟩).trans ?_
        unfold cK;rw [dQ,bP,cP,cQ,dZ,eE]
def wh.F{O bS:Int}{ey:List Int}(c:wh h aj O bS ey bs a_ aH r):rd h (cK h aj) O bS ey=(cK h bs,a_,aH,r):=by
  unfold rd
  rcases c with ⟨bB,rfl,rfl,rfl,rfl⟩|⟨bB,rfl,⟨dQ,bP,cP,cQ,dZ,eE,na,hL,gU⟩,p,av,ba,R,rfl,rfl⟩
  · rw [ee bB]
  · rw [be (by rw [bB];decide)]
    rw [show (decide ((cK h aj).bS < bS)&&decide (h7.e7 ey h.ap=0))=p from av.symm]
    cases p with
    | true =>
      rw [ee rfl] at ba R ⊢
      exact acJ
    | false =>
      rw [be bd] at ba R ⊢
      exact acJ
def ao2(c:gp h af t cd dc){x:Int}:(c5 af).filter (fun F=>decide (F.ck≤x))=((fJ h.b1 af t).filter fun Z=>decide (Z.bg≠0)&&decide (Z.e.ck≤x)).map cp.e:=by
  have G:((fJ h.b1 af t).filter fun Z=>decide (Z.bg≠0)&&decide (Z.e.ck≤x))=(((fJ h.b1 af t).filter fun Z=>decide (Z.bg≠0)).filter fun Z=>decide (Z.e.ck≤x)):=by
    rw [KY];congr 1;funext Z;rw [Bool.and_comm]
  rw [G,←OS c]
  have J:∀ f:List T,(∀ e∈f,e∈c5 af)→f.filter (fun F=>decide (F.ck≤x))=((f.map (CZ t)).filter fun Z=>decide (Z.e.ck≤x)).map cp.e:=by
    intro f
    induction f with
    | nil=>intro _;rfl
    | cons e f b6 =>
      intro S
      have b6:=b6 fun F az=>S F (gS _ az)
      obtain ⟨k,ag,_⟩:=c.k.gu e (S e p5)
      rw [kO,OU ag,nR,nR]
      by_cases ao:e.ck≤x
      · simp [ao,b6]
      · simp [ao,b6]
  exact J _ fun _ c=>c
def anN(c:gp h af t cd dc):c5 af=((fJ h.b1 af t).filter fun Z=>decide (Z.bg≠0)).map cp.e:=by
  rw [←OS c,rl]
  have J:∀ f:List T,(∀ e∈f,e∈c5 af)→f=f.map (cp.e ∘ CZ t):=by
    intro f
    induction f with
    | nil=>intro _;rfl
    | cons e f b6 =>
      intro S
      obtain ⟨k,ag,_⟩:=c.k.gu e (S e p5)
      rw [kO,←b6 fun F az=>S F (gS _ az),Function.comp,OU ag]
  exact J _ fun _ c=>c
def wn.F(bf:h.bC)(aW:aj.bC h)(kW:bs.bC h)(c:wn h aj bs a_ aH r):pp h (cK h aj)=(cK h bs,a_,aH,r):=by
  obtain ⟨rfl,aM,⟨dQ,bP,cP,cQ,dZ⟩,v,dR,b5,fK,dG,eX,km,j6,ls,bJ,bw,W,bA,S,mg,R,ml,rfl,bc⟩:=c
  have qs:=Bd bw W (C9 aW.e8)
  subst qs
  have q4:k9 (eL aj.A.u) bs.x (eL aj.A.u).length=(eL aj.A.u).filter fun e=>decide (ew e bs.x=0):=by unfold k9;rw [DG]
  have Fg:np (eL aj.A.u) bs.x (eL aj.A.u).length=(eL aj.A.u).filter fun e=>!decide (ew e bs.x=0):=by unfold np;rw [DG]
  rw [q4] at bA
  rw [Fg] at S
  have a6:eL dR=(eL aj.A.u).filter fun e=>decide (ew e bs.x=0):=avL (C9 aW.e8) bA
  rw [ao2 aW.b] at mg
  have alH:later (cK h aj).x 1=bs.x:=aM.symm
  have Ae:AU { cK h aj with x:=bs.x }=b5:=mg.symm
  unfold pp
  dsimp only
  rw [alH,Ae]
  have G:=S.r
  have J:=S.z
  have bU:=S.j
  have Q:=S.e
  rcases R with ⟨kY,rfl,rfl⟩|⟨kY,rfl,rfl⟩
  · rw [be kY]
    refine (A2 (q:={ cK h aj with x:=bs.x,A:=(eL aj.A.u).filter fun e=>decide (ew e bs.x=0),n:=(fJ h.b1 aj.af aj.cX).map (sy b5),j:=b5.foldl (fun f F=>bj.drop f F.id) aj.cd }) (G ▸ ml) bf kW.b bc ⟨rfl,rfl,a6.symm,Q.symm⟩).trans ?_
    unfold cK;rw [dQ,bP,cP,cQ,dZ,bU,J]<;>rfl
  · rw [ee kY]
    refine (A2 (q:={ cK h aj with x:=bs.x,A:=(eL aj.A.u).filter fun e=>decide (ew e bs.x=0),n:=(fJ h.b1 aj.af aj.cX).map (sy b5),j:=b5.foldl (fun f F=>bj.drop f F.id) aj.cd,d:=gs h aj.d }) (G ▸ ml) bf kW.b bc ⟨rfl,rfl,a6.symm,Q.symm⟩).trans ?_
    unfold cK;rw [dQ,bP,cP,cQ,dZ,bU,J]<;>rfl
def wm.F(bf:h.bC)(aW:aj.bC h)(c:wm h aj bs a_ aH r):uC h (cK h aj)=(cK h bs,a_,aH,r):=by
  obtain ⟨rfl,rfl,⟨dQ,bP,cP,cQ⟩,dZ,eE,na,hL,gU,zT,jG,v,bw,W,rfl⟩:=c
  have qs:=Bd bw W (C9 aW.e8)
  subst qs
  unfold uC
  have ad:fJ h.b1 (List.replicate 16 none) []=List.replicate h.b1.toNat cp.zero:=by
    exact aca
  rw [show ((cK h aj).n.filter fun Z=>decide (Z.bg≠0)).map cp.e=c5 aj.af from (anN aW.b).symm]
  unfold cK;rw [dQ,bP,cP,cQ,dZ,eE,na,hL,gU,zT,jG,ad,Qi]
def L7.F{l:ou}(bf:h.bC)(aW:aj.bC h)(kW:bs.bC h)(c:L7 h aj l bs a_ aH r):kB h (cK h aj) l=(cK h bs,a_,aH,r):=by
  unfold kB
  rcases c with ⟨R,c⟩|⟨R,c⟩|⟨R,c⟩|⟨R,c⟩|⟨R,c⟩|⟨R,c⟩|⟨R,c⟩|⟨R,rfl,rfl,rfl,rfl⟩
  · rw [ee R];exact c.F bf aW kW
  · rw [be E,ee R];exact c.F bf aW kW
  · rw [be E,be E,ee R];exact c.F bf aW kW
  · rw [be E,be E,be E,ee R];exact c.F bf aW kW
  · rw [be E,be E,be E,be E,ee R];exact c.F
  · rw [be E,be E,be E,be E,be E,ee R];exact c.F bf aW kW
  · rw [be E,be E,be E,be E,be E,be E,ee R];exact c.F bf aW
  · rw [be E,be E,be E,be E,be E,be E,be E]
end
end Go.LK.g
namespace Go.LK.g
open Go Go.LK
def apw{H s:Int}:gd H s=if ab.cc s 2147483647=0 then 0 else ab.cc H 2147483647 / ab.cc s 2147483647:=by
  unfold gd
  have G:=ab.gP H (dr:=2147483647) bd
  have J:=ab.gP s (dr:=2147483647) bd
  split
  · rfl
  · refine uo (Int.ediv_nonneg G.1 J.1) (aam (Int.ediv_le_self _ G.1) G.2)
def arO{s n all:Int}(V:all=ab.cc s 2147483647*ab.cc n 100):(if 100*(all / 100) < all then all / 100+1 else all / 100)=pX s (ab.cc n 100):=by
  have G:=ab.gP s (dr:=2147483647) bd
  have J:=ab.gP n (dr:=100) bd
  unfold pX
  rw [uo (s:=ab.cc n 100) E E,←V]
  have aA:0≤all:=by rw [V];exact K7 G.1 J.1
  have aZ:all≤2147483647*100:=by rw [V];exact Q0 G.2 J.2 J.1 bd
  rw [uo E E]
  split<;>omega
def apJ{l p:Int}(G:0≤l∧l≤2147483647)(J:0≤p∧p≤100):0≤l*p∧l*p≤214748364700 :=
  ⟨K7 G.1 J.1,aam (Q0 G.2 J.2 J.1 bd) bd⟩
def ag9{l p:T}:kz l p=if l.ck≠p.ck then decide (l.ck < p.ck) else if l.seq≠p.seq then decide (l.seq < p.seq) else decide (l.id < p.id):=by
  have c:kz l p=true↔ja l p < 0:=by unfold kz;exact decide_eq_true_iff
  have J:=AV (l:=p) (p:=l)
  rw [KM,c]
  have aA:ja l p < 0↔¬le p l:=by unfold le;exact ke.symm
  rw [aA,J]
  split
  · rw [decide_eq_true_iff];omega
  · split
    · rw [decide_eq_true_iff];omega
    · rw [decide_eq_true_iff];omega
def axb{l p:T}:iL l p=if l.am≠p.am then decide (p.am < l.am) else if l.ck≠p.ck then decide (p.ck < l.ck) else if l.seq≠p.seq then decide (p.seq < l.seq) else decide (p.id < l.id):=by
  rw [KM,KG]
  (repeat' split)<;>(rw [decide_eq_true_iff];omega)
def alM{x a1 j dr:Int}:(pe (part (ab.left a1 x) j) dr < 1)↔pe (part (ab.left a1 x) j) dr=0:=by
  have G:=ab.gP dr (dr:=65535) bd
  have J:=ab.gP (part (ab.left a1 x) j) (dr:=1099511627776) bd
  have:0≤pe (part (ab.left a1 x) j) dr:=by unfold pe;split<;>omega
  omega
def h0(f:List Int):Int:=f.foldl fv 0
def avR{f:List Int}{d:Nat}{s:Int}(c:f[d]?=some s):h0 (f.take (d+1))=fv (h0 (f.take d)) s:=by unfold h0;rw [hx,c,p6];rfl
def Qv{cA held m ev:Int}(bB:-1≤cA)(G:cA≤1)(ce:cA=0→held=0)(ao:1≤ev) :
    gD cA held m ev=(if ka m=0 then (if cA=0 then (0,cA,held) else (0,cA,fv held 1)) else if ka m=cA then (ka m,cA,fv held 1) else if cA=0∨ev≤held∧1≤held then (ka m,ka m,1) else (0,cA,fv held 1)):=by
  have J:=Z2 m
  unfold gD
  generalize ka m=j at *
  by_cases bU:cA=0
  · have:=ce bU;subst bU;subst this
    simp only [and_self,if_true,true_or]
    by_cases aA:j=0
    · simp [aA]
    · simp [aA]
  · rw [be E]
    by_cases aA:j=0
    · subst aA
      rw [be E,ee rfl,be bU,be E]
    · rw [be aA]
      by_cases aZ:j=cA
      · subst aZ;rw [be E,ee rfl,ee rfl]
      · rw [be aZ,be aZ]
        by_cases bT:ev≤held
        · rw [ee ⟨by omega,bT⟩,ee (.inr ⟨bT,by omega⟩)]
        · rw [be E,be E]
def aiu{bm aR held m ev:Int}{op:Bool}(bB:0≤aR)(G:aR≤bm) :
    iv bm aR held m op ev=(if fv held 1 < ev then (false,aR,fv held 1) else if m=1∧0 < aR then (true,aR-1,0) else if m=2∧op=true∧aR < bm then (true,aR+1,0) else (false,aR,fv held 1)):=by
  unfold iv
  split
  · rfl
  · by_cases ba:m=1
    · subst ba
      rw [ee rfl]
      by_cases bA:aR=0
      · rw [ee bA,be E,be E]
      · rw [be bA,ee ⟨rfl,by omega⟩]
    · rw [be ba,be (show ¬(m=1∧0 < aR) from fun c=>ba c.1)]
      by_cases AH:m=2
      · rw [ee AH]
        cases op with
        | false=>simp
        | true =>
          by_cases bA:aR=bm
          · rw [ee (.inr bA),be (show ¬(m=2∧true=true∧aR < bm) from fun c=>by omega)]
          · rw [be (by simp [bA]),ee ⟨AH,rfl,by omega⟩]
      · rw [be AH,be (fun c=>AH c.1)]
def Cp(f:List T)(id:Int):Int:=match f.findIdx? fun e=>decide (e.id=id) with
  | some d=>(d:Int)
  | none=>-1
def sn(f:List T)(id:Int)(d:Nat):Prop:=∀ (k:Nat) (e:T),k < d→f[k]?=some e→¬e.id=id
def sn.zero{f:List T}{id:Int}:sn f id 0:=fun _ _ c=>by omega
def sn.next{f:List T}{id:Int}{d:Nat}{e:T}(c:sn f id d)(Q:f[d]?=some e)(aw:¬e.id=id):sn f id (d+1):=fun k F ag az=>by
  exact abW
def sn.vf{f:List T}{id:Int}{d:Nat}{e:T}(c:sn f id d)(Q:f[d]?=some e)(aw:e.id=id):Cp f id=(d:Int):=by
  unfold Cp;rw [Co Q (by simpa using aw) fun b p ac av=>by simpa using c b p ac av]
def sn.all{f:List T}{id:Int}{d:Nat}(c:sn f id d)(R:¬d < f.length):Cp f id=-1:=by
  unfold Cp;rw [EK fun b p av=>by simpa using c b p (by have:=(dD.1 av).1;omega) av]
def anv{f:List Int}{e r:Int}{d:Nat}(c:e∉f.take d)(aC:f[d]?=some r)(aw:¬r=e):e∉f.take (d+1):=by
  rw [hx,aC];simp;exact ⟨c,fun bP=>aw bP.symm⟩
def Ks{f:List T}{d:Nat}{e:T}{n:T→Bool}(Q:f[d]?=some e):(f.take (d+1)).filter n=(f.take d).filter n++(if n e=true then [e] else []):=by
  rw [hx,Q,jg]
  cases ad:n e<;>simp [ad]
end Go.LK.g
namespace Go.LK
def a'.Zv{ar b2:aB}{C:List aB}(c:∀ j,ar.holds j→b2.holds j∧∀ d∈b2.dT,d∈ar.dT):a' (ar :: C) (b2 :: C):=fun an bL j W=>by
  obtain ⟨G,J⟩:=c j (W.cC ar oU)
  refine ⟨W.aE,fun cO fL=>?_,?_,fun d R=>W.mu d ?_⟩
  · rcases fb.1 fL with rfl|fL
    · exact G
    · exact W.cC cO (by simp [fL])
  · have:=l7.1 W.gX
    exact l7.2 ⟨fun cO fL d R=>this.1 cO fL d (J d R),this.2⟩
  · rw [ya,iE] at R ⊢
    exact R.imp (J d) id
def a'.atC{bi:Type}{z:bi→List Value}{f:List bi}{X:Value}{u H l p:Nat}(lw:l≤p)(av:p≤f.length):a' [row X u H (f.map z)] [bF (j' X H l p) H (((f.take p).drop l).map z)]:=a'.Zv fun j c=>by
  obtain ⟨G,J⟩:=jz j c
  have aA:oV j X H (f.map z):=G
  have aZ:=aA.cut lw G1
  have bT:=ZT aA lw G1
  rw [←KU,←Q3] at aZ bT
  exact ⟨aZ,fun d R=>J d (bT d R)⟩
def a'.aul{bi:Type}{z:bi→List Value}{f:List bi}{X:Value}{u H l p:Nat}(V:l≤f.length)(av:p=f.length):a' [row X u H (f.map z)] [bF (j' X H l p) H ((f.drop l).map z)]:=by
  subst av
  have c:=a'.atC (z:=z) (f:=f) (X:=X) (u:=u) (H:=H) V (oQ _)
  rwa [DG] at c
def a'.P2{bZ:List (List Value)}{X:Value}{u H:Nat}:a' [row X u H bZ] [bF X H bZ]:=a'.Zv jz
end Go.LK
namespace Go.LK.g
open Go Go.LK
section
variable {n:Int→Bool} {z u v e:Int} {d:Nat}
def ajg(c:∀ k:Nat,k < d→¬n (z+(k:Int))=true)(R:u≤z+(d:Int))(bc:z≤u+1):qW n z u u=u:=by
  unfold qW
  split
  · rename_i k ag
    have G:=Ni ag
    have J:=aao ag
    have aA:¬k < d:=fun aA=>c k aA J
    omega
  · rfl
def ajd(ad:n e=true)(bc:z≤e):nx n e z v=e:=by
  have c:=UM (n:=n) (z:=e) (u:=z) (v:=v) (d:=0) (fun k c=>by omega) G2 E
  simpa using c.symm
def aje(ad:¬n e=true)(bc:z≤e):nx n e z v=nx n (e-1) z v:=by
  unfold nx
  rw [show (e-z+1).toNat=(e-1-z+1).toNat+1 from by omega,GO,List.find?_cons_of_neg G2,List.find?_map]
  have:((fun k:Nat=>n (e-(k:Int))) ∘ Nat.succ)=fun k:Nat=>n (e-1-(k:Int)):=by
    funext k;simp only [Function.comp];congr 1;omega
  rw [this]
  cases (List.range (e-1-z+1).toNat).find? (fun k:Nat=>n (e-1-(k:Int))) with
  | none=>rfl
  | some k=>simp only [Bx];omega
def aja:nx n (z-1) z v=v:=by
  unfold nx;rw [show (z-1-z+1).toNat=0 from by omega];rfl
end
section
variable {S:List Int} {ap e aa:Int}
def ag'(bB:0≤e)(G:e≤ap):it (S.take ap.toNat) e.toNat=iu ap S e:=by
  unfold iu;rw [be E,TI,Nat.min_comm,Nat.min_comm]
def ag_(bB:0≤ap)(G:ap≤128):it (S.take ap.toNat) ap.toNat=iu ap S 128:=by
  unfold iu;rw [be E,TI,Nat.min_self,Nat.min_eq_right E]
end
def H6{f S:List Int}{e:Int}(h9:f=S.take f.length)(bB:0≤e)(G:e≤(f.length:Int)):it f e.toNat=iu (f.length:Int) S e:=by
  have c:=ag' (S:=S) (ap:=(f.length:Int)) bB G
  exact acC
def aha{f S:List Int}(h9:f=S.take f.length)(G:f.length≤128):it f (f.length:Int).toNat=iu (f.length:Int) S 128:=by
  have c:=ag_ (S:=S) (ap:=(f.length:Int)) E E
  exact acC
def arN{l p:Int}:0≤pX l p∧pX l p≤2147483647:=ab.gP _ bd
def aqD{f:List Int}{t:Nat}{id:Int}(c:id∉f)(S:f.length < t):gJ f t id=f++[id]:=by unfold gJ;rw [be c,show f.length+1-t=0 from by omega];rfl
def aqC{f:List Int}{t:Nat}{id:Int}(c:id∉f)(S:f.length=t):gJ f t id=(f++[id]).drop 1:=by unfold gJ;rw [be c,show f.length+1-t=1 from by omega]
def Bl(f:List T):Int:=match f.findIdx? fun F=>f.all fun aI=>!iL aI F with
  | some d=>(d:Int)
  | none=>0
def so(f:List T)(b:Nat):Prop:=∀ (k:Nat) (e:T),k < b→f[k]?=some e→(f.all fun aI=>!iL aI e)=false
def so.zero{f:List T}:so f 0:=fun _ _ c=>by omega
def so.next{f:List T}{b:Nat}{e:T}(c:so f b)(Q:f[b]?=some e)(aw:(f.all fun aI=>!iL aI e)=false):so f (b+1):=fun k F ag az=>by
  rcases mR k b with G|G
  · exact c k F G az
  · obtain rfl:k=b:=by omega
    rw [Q] at az;cases az;exact aw
def so.vf{f:List T}{b:Nat}{e:T}(c:so f b)(Q:f[b]?=some e)(aw:(f.all fun aI=>!iL aI e)=true):Bl f=(b:Int):=by
  unfold Bl;rw [Co Q aw fun k p ag av=>c k p ag av]
def so.all{f:List T}{b:Nat}(c:so f b)(R:¬b < f.length):Bl f=0:=by
  unfold Bl;rw [EK fun k p av=>c k p (by have:=(dD.1 av).1;omega) av]
def agt{bi:Type}{f:List bi}{d:Nat}{e:bi}{n:bi→Bool}(Q:f[d]?=some e):(f.take (d+1)).all n=((f.take d).all n&&n e):=by
  rw [hx,Q,QN];simp
end Go.LK.g
namespace Go.LK.g
open Go Go.LK
section
variable {v f:List T} {e F:T} {d:Nat}
def apd(c:kz e F=true):le e F:=by
  have G:¬le F e:=fun J=>J (dp c)
  rw [AV] at G ⊢;omega
def ape(c:kz e F=false):le F e:=fa c
def v'(v:List T)(e:T)(d:Nat):Prop:=∀ (k:Nat) (F:T),d≤k→v[k]?=some F→kz e F=true
def v'.start(c:v.length≤d):v' v e d:=fun k F ag az=>by
  have:=(dD.1 az).1;omega
def v'.next(c:v' v e d)(R:0 < d)(az:v[d-1]?=some F)(av:kz e F=true):v' v e (d-1):=fun k aI ag ce=>by
  rcases mR k d with G|G
  · obtain rfl:k=d-1:=by omega
    rw [az] at ce;cases ce;exact av
  · exact c k aI G ce
def anH(W:v.Pairwise le)(c:v' v e d)(Q:d=0∨∃ F,v[d-1]?=some F∧kz e F=false):(v.take d++[e]++v.drop d).Pairwise le:=by
  have G:∀ l∈v.take d,le l e:=fun l V=>by
    rcases Q with rfl|⟨F,az,av⟩
    · simp at V
    · have Wv:=ape av
      obtain ⟨b,ac⟩:=kw.1 V
      rw [k6] at ac
      split at ac
      · rcases mR b (d-1) with J|J
        · obtain ⟨wA,tP⟩:=dD.1 ac
          obtain ⟨is,j4⟩:=dD.1 az
          have:=GH.1 W b (d-1) wA is J
          rw [tP,j4] at this
          exact le_trans this Wv
        · obtain rfl:b=d-1:=by omega
          rw [az] at ac;cases ac;exact Wv
      · cases ac
  have J:∀ p∈v.drop d,le e p:=fun p av=>by
    obtain ⟨b,ac⟩:=kw.1 av
    rw [xx] at ac
    exact apd (c (d+b) p E ac)
  have aA:(v.take d++v.drop d).Pairwise le:=by rw [kQ];exact W
  rw [p7] at aA
  rw [ia,p7]
  refine ⟨aA.1,?_,fun l V p av=>?_⟩
  · rw [aay,l7];exact ⟨J,aA.2.1⟩
  · rcases iE.1 av with av|av
    · obtain rfl:=nm.1 av;exact G l V
    · exact aA.2.2 l V p av
def anG:(v.take d++[e]++v.drop d).Perm (v++[e]):=by
  have c:(v.take d++[e]++v.drop d).Perm (v.take d++v.drop d++[e]):=by
    rw [ia,ia]
    exact Bt _ Dv
  rwa [kQ] at c
structure tL (f v:List T) (b:Nat):Prop where
  n:v.Perm (f.take b)
  H:v.Pairwise le
def tL.zero:tL f [] 0:=⟨by simp,.nil⟩
def tL.len{b:Nat}(c:tL f v b)(ac:b≤f.length):v.length=b:=by have:=c.n.length_eq;rw [ib] at this;omega
def tL.next{b:Nat}(c:tL f v b)(Q:f[b]?=some e)(av:v' v e d)(aC:d=0∨∃ F,v[d-1]?=some F∧kz e F=false):tL f (v.take d++[e]++v.drop d) (b+1) :=
  ⟨anG.trans (by rw [hx,Q];exact KS _ c.n),anH c.H av aC⟩
def tL.all{b:Nat}(c:tL f v b)(ac:¬b < f.length)(aw:(f.map T.id).Nodup):v=eL f:=by
  refine Bd ?_ c.H aw
  have:=c.n;rwa [ir E] at this
def awG(c:xk f=some F)(aw:(f.map T.id).Nodup):∃ d:Nat,Bl f=(d:Int)∧f[d]?=some F∧f.take d++f.drop (d+1)=f.filter fun aI=>decide (aI.id≠F.id):=by
  unfold xk at c
  obtain ⟨ad,d,R,kE,dy⟩:=QL.1 c
  have V8:f[d]?=some F:=by rw [et R,kE]
  refine ⟨d,?_,V8,?_⟩
  · refine so.vf (f:=f) (b:=d) (e:=F) (fun k aI ag ce=>?_) V8 ad
    obtain ⟨wA,tP⟩:=dD.1 ce
    have:=dy k ag
    rw [tP] at this;simpa using this
  · have S:f=f.take d++F :: f.drop (d+1):=by
      have:=kQ d f
      rw [qF R,kE] at this;exact this.symm
    have pd:=aw
    rw [S,gR,kO,lm,kP] at pd
    have dQ:f.filter (fun aI=>decide (aI.id≠F.id))=(f.take d++F :: f.drop (d+1)).filter fun aI=>decide (aI.id≠F.id):=by rw [←S]
    rw [dQ,jg,K2 oU,rk.2,rk.2]
    · intro aI ce;rw [decide_eq_true_eq];exact fun r=>pd.2.1.1 (r ▸ bx.2 ⟨aI,ce,rfl⟩)
    · intro aI ce;rw [decide_eq_true_eq];exact fun r=>pd.2.2 aI.id (bx.2 ⟨aI,ce,rfl⟩) F.id (p5) r
def EM{id:Int}(c:∀ F∈f,F.id≠id):Cp f id=-1:=sn.all (d:=f.length) (fun k e _ Q=>c e (eF Q)) E
end
def Gu{cA held m ev:Int}:-1≤(gD cA held m ev).1∧(gD cA held m ev).1≤1:=by
  exact acg
end Go.LK.g
namespace Go.LK.g
open Go Go.LK
def Qg{s t:Int}:dd.cc s t=ab.cc s t:=rfl
def apK{l p:Int}:dd.jc l p=ab.cc (ab.cc l 2147483647*ab.cc p 2147483647) 2147483647:=by
  unfold dd.jc
  rw [Qg,Qg,Qg]
  have c:=yK (ab.gP l (dr:=2147483647) bd) (ab.gP p (dr:=2147483647) bd)
  rw [show IntKind.i64.wrap (ab.cc l 2147483647*ab.cc p 2147483647)=ab.cc l 2147483647*ab.cc p 2147483647 from AN E]
def xg(l p:Int):Int:=if ab.cc l 2147483647 < ab.cc p 2147483647 then ab.cc p 2147483647-ab.cc l 2147483647 else 0
def ut(s:Int):Int:=if s < 1 then 1 else ab.cc s 2147483647
def uu(Qt aa ap:Int):Int:=if xg aa ap=0 then 0 else fv (ut Qt-1) (xg aa ap)
def ED(ev aR bm:Int):Int:=ab.cc (ab.cc (ut ev) 2147483647*ab.cc (xg aR bm) 2147483647) 2147483647
def Cf(Qt ev aa ap aR bm:Int):Int:=fv (uu Qt aa ap) (ED ev aR bm)
def XF{s:Int}:1≤ut s∧ut s≤2147483647:=by
  unfold ut
  split
  · omega
  · have G:=ab.gP s (dr:=2147483647) bd
    have:1≤ab.cc s 2147483647:=by unfold ab.cc;(repeat' split)<;>omega
    omega
def XG{s:Int}:(if 1 > ab.cc s 2147483647 then 1 else ab.cc s 2147483647)=ut s:=by
  unfold ut ab.cc;(repeat' split)<;>omega
def agc{l:Int}(bB:0≤l)(G:l≤2147483647):fv 0 l=l:=by
  unfold fv;rw [uo (s:=0) E E,uo bB G,Int.zero_add,uo bB G]
def Qn{l p:Int}(bB:0≤l)(G:l≤2147483647):h0 [l,p]=fv l p:=by
  unfold h0;simp only [DA,aaq];rw [agc bB G]
def XI{l p i:Int}:0≤uu l p i∧uu l p i≤2147483647:=by
  unfold uu;split
  · omega
  · exact Mx _ _
end Go.LK.g
namespace Go.LK.g
open Go Go.LK
def Nk{s j t:Int}(bU:1≤j∧j≤6)(bh:t=2 ^ (8*j).toNat):o9 s j=true↔0≤s∧s < t:=by
  unfold o9 hi
  have G:min (8*j).toNat IntKind.i64.bits=(8*j).toNat:=by
    show min (8*j).toNat 64=_;omega
  have J:Bb .i64 s (8*j)=s / t:=by
    unfold Bb;rw [G,←bh]
    exact aap _ (by rw [bh];exact Int.le_of_lt (Int.pow_pos bd))
  rw [J]
  have jv:0 < t:=by rw [bh];exact Int.pow_pos bd
  simp only [h6,decide_eq_true_eq,uN,decide_eq_false_iff_not]
  constructor
  · rintro ⟨⟨_,aA⟩,aZ⟩
    refine ⟨by omega,?_⟩
    rcases Int.lt_or_le s t with bT|bT
    · exact bT
    · exact absurd (Int.lt_of_lt_of_le (bd:(0:Int) < 1) (Int.le_ediv_of_mul_le jv E)) aZ
  · rintro ⟨aA,aZ⟩
    exact ⟨⟨bU,by omega⟩,by rw [Int.ediv_eq_zero_of_lt aA aZ];decide⟩
def Pz{O bS l p i y r z L:Int}:qw O [O,bS,l,p,i,y,r,z,L]=true↔(0≤O∧O < 8)∧(0≤bS∧bS < 4294967296)∧(0≤l∧l < 65536)∧(0≤p∧p < 65536)∧(0≤i∧i < 256)∧(0≤y∧y < 256)∧(0≤r∧r < 256)∧(0≤z∧z < 256)∧(0≤L∧L < 256):=by
  unfold qw nl
  simp only [List.zip_cons_cons,List.zip_nil_right,k8,ri,jV,h6,decide_eq_true_eq,
    Nk (j:=1) (t:=256) bd bd,Nk (j:=2) (t:=65536) bd bd,Nk (j:=4) (t:=4294967296) bd bd]
  omega
end Go.LK.g
namespace Go.LK
open Go
def a7.bF(k:a7):aB:=Go.LK.bF k.m 1 (k.cr.map bH)
def O0{Y:Nat}{f:List a7}:∀ j,(c1 (f.map (a7.row Y))).holds j→(hZ (f.map a7.bF)).holds j∧∀ d∈(hZ (f.map a7.bF)).dT,d∈(c1 (f.map (a7.row Y))).dT:=TM fun _ _=>jz
namespace g
def aow{f t:List a7}{d:Nat}{r aI:a7}(c:f.map a7.cL=t.map a7.cL)(aC:f[d]?=some r)(ce:t[d]?=some aI):r.e=aI.e∧r.bg=aI.bg∧r.cr=aI.cr:=by
  have G:(f.map a7.cL)[d]?=some r.cL:=by rw [hy,aC];rfl
  rw [c,hy,ce] at G
  have J:aI.cL=r.cL:=p8 G
  exact ⟨(dz cp.e J).symm,(dz cp.bg J).symm,(dz cp.cr J).symm⟩
def WW{f t:List a7}(c:f.map a7.cL=t.map a7.cL):t.length=f.length:=by have:=dz List.length c;simpa using this.symm
end g
end Go.LK
namespace Go.LK.g
open Go Go.LK
structure ct where
  s:Nat
  ej:Value
  dA:Value
  ae:Value
  gK:Value
  eD:Value
  e5:Value
  jU:Value
  fj:Value
  hp:Value
def kt(h:b3)(ah:ct)(q:cu):List Value:=[.b h.bM,.b h.cW,.b h.b0,.int .u64 (Nat.cast h.key:Int),ah.ej,.b h.al,.b h.b1,.b h.hD,.b h.qD,.b h.bm,.b h.fW,.b h.bD,.b h.sE,.b h.me,.b h.f2,.b h.f3,.b h.f4,.b h.f5,.b h.f6,ah.dA,.b q.x,.b q.bS,.b q.aY,.b q.bb,ah.ae,.b h.ap,.b q.d.cb,.b q.d.bJ,.b q.d.bR,.b q.d.b4,.b q.d.bY,.b q.d.b_,.b q.d.cy,ah.gK,ah.eD,.b q.d.cA,.b q.d.held,.b h.bm,.b q.d.aR,.b q.d.gh,.b q.d.aa,.b q.d.aP,ah.e5,ah.jU,ah.fj,ah.hp]
end Go.LK.g
namespace Go.LK.g
open Go Go.LK
def CU:Option Nat→Int
  | some d=>(d:Int)
  | none=>-1
def ru(n:a7→Bool)(bu:List a7)(d:Nat):Prop:=∀ (k:Nat) (e:a7),k < d→bu[k]?=some e→n e=false
def ru.zero{n:a7→Bool}{bu:List a7}:ru n bu 0:=fun _ _ c=>by omega
def ru.next{n:a7→Bool}{bu:List a7}{d:Nat}{e:a7}(c:ru n bu d)(Q:bu[d]?=some e)(aw:n e=false):ru n bu (d+1):=fun k F ag az=>by
  exact abW
def ru.vf{A:cp→Bool}{bu:List a7}{d:Nat}{e:a7}(c:ru (fun k=>A k.cL) bu d)(Q:bu[d]?=some e)(ad:A e.cL=true):(bu.map a7.cL).findIdx? A=some d :=
  Co (by rw [hy,Q];rfl) ad fun b p ac av=>by
    rw [hy] at av
    cases ag:bu[b]? with
    | none=>rw [ag] at av;cases av
    | some F=>rw [ag] at av;cases av;exact c b F ac ag
def ru.all{A:cp→Bool}{bu:List a7}{d:Nat}(c:ru (fun k=>A k.cL) bu d)(R:¬d < bu.length):(bu.map a7.cL).findIdx? A=none :=
  EK fun b p av=>by
    rw [hy] at av
    cases ag:bu[b]? with
    | none=>rw [ag] at av;cases av
    | some F=>rw [ag] at av;cases av;exact c b F Lm ag
end Go.LK.g
namespace Go.LK
open Go
def a7.zero:a7:=⟨T.zero,0,.slice none 0 0,[],rfl⟩
def WY{Y:Nat}{f:List a7}{d:Nat}{r:a7}(c:f[d]?=some r)(aI:a7):(f.map (a7.row Y)).Perm (a7.row Y r :: (f.take d++f.drop (d+1)).map (a7.row Y))∧((f.set d aI).map (a7.row Y)).Perm (a7.row Y aI :: (f.take d++f.drop (d+1)).map (a7.row Y)):=by
  obtain ⟨R,aC⟩:=dD.1 c
  have G:f=f.take d++r :: f.drop (d+1):=by
    have:=kQ d f
    rw [qF R,aC] at this;exact this.symm
  constructor
  · have J:f.map (a7.row Y)=(f.take d++r :: f.drop (d+1)).map (a7.row Y):=by rw [←G]
    rw [J,gR,kO,gR];exact tq
  · rw [KP,ee R,gR,kO,gR];exact tq
def yE{Y:Nat}{f:List a7}{d:Nat}{r:a7}(c:f[d]?=some r)(aI:a7):a' [a7.row Y aI,c1 (f.map (a7.row Y))] [c1 ((f.set d aI).map (a7.row Y))] :=
  a'.trans (a'.cons (g.MH (WY c aI).1)) (g.Cb (WY c aI).2)
end Go.LK
namespace Go.LK.g
open Go Go.LK
def vQ(o:List cp)(id:Int):Int×Int:=match hd o id with
  | none=>(0,7)
  | some b=>if (o.getD b cp.zero).bg≠1 then (0,12) else ((b:Int),0)
def OX(bu:List a7)(id:Int):(hd (bu.map a7.cL) id=none)∨∃ (b:Nat) (r:a7),hd (bu.map a7.cL) id=some b∧bu[b]?=some r∧r.e.id=id∧r.bg≠0∧(bu.map a7.cL).getD b cp.zero=r.cL:=by
  cases c:hd (bu.map a7.cL) id with
  | none=>exact .inl rfl
  | some b =>
    unfold hd at c
    obtain ⟨ac,ad,_⟩:=nS.1 c
    rw [fc] at ac
    refine .inr ⟨b,bu[b],rfl,et ac,?_⟩
    simp only [List.getElem_map,h6,decide_eq_true_eq] at ad
    exact ⟨ad.2,ad.1,by rw [ps,hy,et ac];rfl⟩
end Go.LK.g
namespace Go.LK.g
open Go Go.LK
structure rz (d:dM) (aJ:List Int):Prop where
  ez:d.ez=aJ.length
  eA:d.eA=h0 aJ
section
variable {h:b3} {ah:ct} {q:cu} {d bR:dM} {aJ u1:List Int} {e:T} {fu:List T} {uY:List cp} {a_ km:List aK} {aH:List bk} {b:Nat}
def agb{s:Nat}(c:s≤1000000):fv (s:Int) 1=((s+1:Nat):Int):=by
  unfold fv
  rw [uo (s:=(s:Int)) E E,uo (s:=1) E E,uo E E];omega
def avQ{F:Int}:h0 (aJ++[F])=fv (h0 aJ) F:=by unfold h0;rw [p6];rfl
def rz.QA(c:rz d aJ)(ix:aJ.length≤1000000)(F:Int):rz (rg d F) (aJ++[F]) :=
  ⟨by show fv d.ez 1=_;rw [c.ez,agb ix,eh];rfl,by show fv d.eA F=_;rw [c.eA,avQ]⟩
structure wg (h:b3) (q:cu) (a_:List aK) (aJ:List Int) (fu:List T) (uY:List cp) (bR:dM) (km:List aK) (u1:List Int):Prop where
  e:∃ aj,lj q.x h.al q.A q.n q.d=qQ aj (lj q.x h.al fu uY bR)∧km=a_++aj
  b1:rz bR u1
  s1:km.length+fu.length=a_.length+q.A.length
  Pw:u1.length+fu.length=aJ.length+q.A.length
def wg.zero(c:rz q.d aJ):wg h q a_ aJ q.A q.n q.d a_ aJ:=⟨⟨[],by simp [qQ],by simp⟩,c,rfl,rfl⟩
def wg.next(c:wg h q a_ aJ fu uY bR km u1)(ix:u1.length≤1000000)(Q:fu[0]?=some e)(bc:nw uY=some b):wg h q a_ aJ (fu.drop 1) (uY.set b ⟨e,1,[]⟩) (rg bR (ab.left q.x e.dm)) (km++[⟨3,q.x,h.al,e.id,0,ab.left q.x e.dm,e.ck⟩]) (u1++[ab.left q.x e.dm]):=by
  obtain ⟨⟨aj,G,J⟩,aA,aZ,bT⟩:=c
  cases fu with
  | nil=>cases Q
  | cons F A =>
    cases Q
    refine ⟨⟨aj++[Bf q.x h.al e],?_,by rw [J,ia];rfl⟩,aA.QA ix _,?_,?_⟩
    · rw [G,JG bc,Tl];rfl
    · simp only [eh,e6,fq,za,uI] at aZ ⊢;omega
    · simp only [eh,e6,fq,za,uI] at bT ⊢;omega
def wg.done(c:wg h q a_ aJ fu uY bR km u1)(ao:nw uY=none∨fu=[]):fx h q a_ aH=({ q with A:=fu,n:=uY,d:=bR },km,aH,0):=by
  obtain ⟨⟨aj,G,J⟩,_⟩:=c
  have aA:lj q.x h.al fu uY bR=(fu,uY,bR,[]):=by
    rcases ao with ao|rfl
    · exact JF ao
    · rfl
  unfold fx;rw [G,aA,J];simp [qQ]
def PC{x al:Int}:∀ (A:List T) (o:List cp) (d:dM),∃ l p i,(lj x al A o d).2.2.1={ d with ez:=l,eA:=p,gb:=i }
  | [],o,d=>⟨_,_,_,rfl⟩
  | e :: A,o,d=>by
    rw [lj]
    split
    · exact ⟨_,_,_,rfl⟩
    · obtain ⟨l,p,i,c⟩:=PC A (o.set ‹Nat› ⟨e,1,[]⟩) (rg d (ab.left x e.dm))
      exact ⟨l,p,i,c⟩
def Yq:kt h ah (fx h q a_ aH).1=kt h ah q:=by
  obtain ⟨l,p,i,c⟩:=PC (x:=q.x) (al:=h.al) q.A q.n q.d
  unfold kt fx;simp only [c]
def arm:(fx h q a_ aH).1.d.S=q.d.S:=by
  obtain ⟨l,p,i,c⟩:=PC (x:=q.x) (al:=h.al) q.A q.n q.d
  unfold fx;simp only [c]
def ai_(bu:List a7):(nw (bu.map a7.cL)=none)∨∃ (b:Nat) (r:a7),nw (bu.map a7.cL)=some b∧bu[b]?=some r:=by
  cases c:nw (bu.map a7.cL) with
  | none=>exact .inl rfl
  | some b =>
    unfold nw at c
    obtain ⟨ac,_,_⟩:=nS.1 c
    rw [fc] at ac
    exact .inr ⟨b,bu[b],rfl,et ac⟩
def Dg{bu:List a7}{k:a7}:(bu.set b k).map a7.cL=(bu.map a7.cL).set b k.cL:=List.map_set
end
end Go.LK.g
namespace Go.LK.g
open Go Go.LK
structure nW (h:b3) (q:cu) (aJ:List Int) (bu:List a7):Prop where
  bf:h.bC
  d:q.d.bC h
  n:bu.map a7.cL=q.n
  b1:rz q.d aJ
  cd:aJ.length≤60000
  A:q.A.length≤64
  j:q.j.length≤60000
  nH:0≤q.x
  hn:q.x≤1099511627776
  i':0≤q.bb
  c0:q.bb≤1000000
  fG:0≤q.aY
  dG:q.aY≤1000000
  e8:(q.A.map T.id).Nodup
  bz:(q.bz.length:Int)≤h.fW
  m':ab.oY q.y
  jq:q.n.length=h.b1.toNat
  c2:∀ Z∈q.n,Z.cr.length≤100
  Z7:∀ n∈q.j,(hd q.n n.ff).isSome=true
  X6:∀ (b k:Nat) (Z H:cp),q.n[b]?=some Z→q.n[k]?=some H→Z.bg≠0→H.bg≠0→Z.e.id=H.e.id→b=k
structure wa (h:b3) (zJ:cu) (dY aJ:List Int) (jn:List a7):Prop where
  n:jn.map a7.cL=zJ.n
  b1:rz zJ.d dY
  cd:dY.length≤aJ.length+64
def ct.as(ah l_:ct):ct:={ l_ with s:=ah.s,ej:=ah.ej,dA:=ah.dA }
section
variable {h:b3} {q:cu} {aJ:List Int} {bu:List a7} {b:Nat} {Z:cp} {id:Int}
def nW.yC(c:nW h q aJ bu):bu.length≤16:=by
  have G:=dz List.length c.n
  rw [fc,c.jq] at G
  have:=c.bf.gk;omega
def Z_(ad:bu.map a7.cL=q.n)(id:Int):(hd q.n id=none∧vQ (bu.map a7.cL) id=(0,7)) ∨
    (∃ (b:Nat) (r:a7),hd q.n id=some b∧bu[b]?=some r∧q.n.getD b cp.zero=r.cL∧r.e.id=id∧r.bg≠1∧vQ (bu.map a7.cL) id=(0,12)) ∨
    (∃ (b:Nat) (r:a7),hd q.n id=some b∧bu[b]?=some r∧q.n.getD b cp.zero=r.cL∧r.e.id=id∧r.bg=1∧vQ (bu.map a7.cL) id=((b:Int),0)):=by
  rw [←ad]
  rcases OX bu id with c|⟨b,r,G,J,aA,aZ,bT⟩
  · exact .inl ⟨c,by unfold vQ;rw [c]⟩
  · by_cases n':r.bg=1
    · exact .inr (.inr ⟨b,r,G,J,bT,aA,n',by unfold vQ;rw [G];dsimp only;rw [bT];exact be (fun au=>au n')⟩)
    · exact .inr (.inl ⟨b,r,G,J,bT,aA,n',by unfold vQ;rw [G];dsimp only;rw [bT];exact ee n'⟩)
def ahf(c:hd q.n id=none):n5 h q id=(q,[],[],7):=by unfold n5;rw [c]
def ahg(c:hd q.n id=some b)(bq:q.n.getD b cp.zero=Z)(ad:Z.bg≠1):n5 h q id=(q,[],[],12):=by unfold n5;rw [c];dsimp only;rw [bq,ee ad]
def ahe(c:hd q.n id=some b)(bq:q.n.getD b cp.zero=Z)(ad:Z.bg=1):n5 h q id=fx h { q with n:=q.n.set b cp.zero,j:=bj.drop q.j Z.e.id } [ek q.x h.al (Z.e,10)] [eB h.al q.d (Z.e,10)]:=by
  unfold n5;rw [c];dsimp only;rw [bq,be (fun au=>au ad)];unfold vv pW;rw [bq];rfl
def aiz(c:hd q.n id=none):kC h q id=(q,[],[],7):=by unfold kC;rw [c]
def aiA(c:hd q.n id=some b)(bq:q.n.getD b cp.zero=Z)(ad:Z.bg≠1):kC h q id=(q,[],[],12):=by unfold kC;rw [c];dsimp only;rw [bq,ee ad]
def aiy(c:hd q.n id=some b)(bq:q.n.getD b cp.zero=Z)(ad:Z.bg=1)(aS:(l1 h q.d q.y Z.e q.x).1≠0):kC h q id=fx h { q with n:=q.n.set b cp.zero,j:=bj.drop q.j Z.e.id } [ek q.x h.al (Z.e,(l1 h q.d q.y Z.e q.x).1)] [eB h.al q.d (Z.e,(l1 h q.d q.y Z.e q.x).1)]:=by
  unfold kC;rw [c];dsimp only;rw [bq,be (fun au=>au ad),ee aS];unfold vv pW;rw [bq];rfl
def Ui{c0:Int}{a_:List aK}{aH:List bk}(c:hd q.n id=some b)(bq:q.n.getD b cp.zero=Z)(ad:Z.bg=1)(aS:¬(l1 h q.d q.y Z.e q.x).1≠0)(S:m_ h q Z.e=(c0,a_,aH,[])):kC h q id=fx h { q with bb:=c0,n:=q.n.set b cp.zero,j:=bj.drop q.j Z.e.id } (a_++[ek q.x h.al (Z.e,1)]) (aH++[eB h.al q.d (Z.e,1)]):=by
  unfold kC;rw [c];dsimp only;rw [bq,be (fun au=>au ad),be aS,S,ee rfl];unfold vv pW;dsimp only;rw [bq]
def aiB{c0:Int}{a_:List aK}{aH:List bk}{c2:List Int}(c:hd q.n id=some b)(bq:q.n.getD b cp.zero=Z)(ad:Z.bg=1)(aS:¬(l1 h q.d q.y Z.e q.x).1≠0)(S:m_ h q Z.e=(c0,a_,aH,c2))(aw:c2≠[])(ac:Z.e.id=id):kC h q id=fx h { q with bb:=c0,n:=q.n.set b ⟨Z.e,2,Go.LK.bn.rising c2⟩,j:=c2.foldl (fun f F=>bj.add f F id) q.j } a_ aH:=by
  unfold kC;rw [c];dsimp only;rw [bq,be (fun au=>au ad),be aS,S,be aw,ac]
def Qe{bi:Type}{f:List bi}{b:Nat}{l:bi}(c:f[b]?=some l):f.set b l=f:=by
  obtain ⟨G,J⟩:=dD.1 c
  rw [←J];exact List.set_getElem_self G
section
variable {aE O code aa aP aR mL:Int}
def atF(c:(mP id aE O code aa aP aR&&decide (O=h.al)&&mo h aE)=false):iX h q id aE O code aa aP aR=(q,[],[],1):=by unfold iX;rw [ee c]
def Yw(c:(mP id aE O code aa aP aR&&decide (O=h.al)&&mo h aE)=true)(ag:bj.dX q.j id=none):iX h q id aE O code aa aP aR=({ q with y:=(ab.fA q.y aE aa aP q.x).1 },n9 h q id aE code aa aP,[],0):=by
  unfold iX;rw [be BB,ag]
def Yx(c:(mP id aE O code aa aP aR&&decide (O=h.al)&&mo h aE)=true)(ag:bj.dX q.j id=some mL)(V:hd q.n mL=some b)(bq:q.n.getD b cp.zero=Z)(aS:jL Z.bg Z.cr id code=0):iX h q id aE O code aa aP aR=({ q with y:=(ab.fA q.y aE aa aP q.x).1,j:=bj.c8 q.j id,n:=q.n.set b ⟨Z.e,Z.bg,oa Z.bg Z.cr id⟩ },n9 h q id aE code aa aP,[],0):=by
  unfold iX;rw [be BB,ag];dsimp only;rw [V];dsimp only;rw [bq,be (fun au=>au aS)]
def J7(c:(mP id aE O code aa aP aR&&decide (O=h.al)&&mo h aE)=true)(ag:bj.dX q.j id=some mL)(V:hd q.n mL=some b)(bq:q.n.getD b cp.zero=Z)(aS:jL Z.bg Z.cr id code≠0):iX h q id aE O code aa aP aR=fx h { q with y:=(ab.fA q.y aE aa aP q.x).1,j:=bj.drop (bj.c8 q.j id) Z.e.id,n:=q.n.set b cp.zero } (n9 h q id aE code aa aP++[ek q.x h.al (Z.e,jL Z.bg Z.cr id code)]) [eB h.al q.d (Z.e,jL Z.bg Z.cr id code)]:=by
  unfold iX;rw [be BB,ag];dsimp only;rw [V];dsimp only;rw [bq,ee aS];unfold vv pW;dsimp only;rw [bq];rfl
def WT{i:Int}(ad:bu.map a7.cL=q.n)(bU:∀ n∈q.j,(hd q.n n.ff).isSome=true):bj.dX q.j i=none∨∃ mL,bj.dX q.j i=some mL∧∃ (b:Nat) (r:a7),hd (bu.map a7.cL) mL=some b∧bu[b]?=some r∧hd q.n mL=some b∧q.n.getD b cp.zero=r.cL∧r.e.id=mL∧r.bg≠0:=by
  cases ag:bj.dX q.j i with
  | none=>exact .inl rfl
  | some mL =>
    have G:∃ n∈q.j,n.ff=mL:=by
      clear bU
      generalize q.j=f at ag
      induction f with
      | nil=>cases ag
      | cons n f b6 =>
        unfold bj.dX at ag
        split at ag
        · cases ag;exact ⟨n,p5,rfl⟩
        · obtain ⟨A,J,aA⟩:=b6 ag;exact ⟨A,gS _ J,aA⟩
    obtain ⟨n,J,rfl⟩:=G
    have aA:=bU n J
    rw [←ad] at aA ⊢
    rcases OX bu n.ff with c|⟨b,r,aZ,bT,c7,gi,dL⟩
    · rw [c] at aA;cases aA
    · exact .inr ⟨n.ff,rfl,b,r,aZ,bT,aZ,dL,c7,gi⟩
end
section
variable {aE O am a1 bM:Int}
def atG(c:nJ h id aE O am a1 bM=false):je h q id aE O am a1 bM=(q,[],[],1):=by unfold je;rw [ee c]
def atH(c:nJ h id aE O am a1 bM=true)(J:oI q id=true):je h q id aE O am a1 bM=(q,[⟨2,q.x,h.al,id,0,0,0⟩],[],0):=by unfold je;rw [be BB,ee J]
def YA(c:nJ h id aE O am a1 bM=true)(J:oI q id=false)(aS:iU q.x q.d.aa am a1≠0):je h q id aE O am a1 bM=fx h { q with bz:=gJ q.bz h.fW.toNat id,d:=cY h q.d am } [⟨1,q.x,h.al,id,iU q.x q.d.aa am a1,am,q.d.aa⟩,ek q.x h.al (⟨id,am,aE,a1,bM,q.x,0⟩,iU q.x q.d.aa am a1)] [eB h.al q.d (⟨id,am,aE,a1,bM,q.x,0⟩,iU q.x q.d.aa am a1)]:=by
  unfold je;rw [be BB,be (by rw [J];decide),ee aS]
def PU(c:nJ h id aE O am a1 bM=true)(J:oI q id=false)(aS:iU q.x q.d.aa am a1=0)(S:(q.A.length:Int) < h.hD):je h q id aE O am a1 bM=fx h { q with bz:=gJ q.bz h.fW.toNat id,d:=cY h q.d am,aY:=q.aY+1,A:=eL (⟨id,am,aE,a1,bM,q.x,q.aY+1⟩ :: q.A) } [⟨1,q.x,h.al,id,0,am,q.d.aa⟩] []:=by
  unfold je;rw [be BB,be (by rw [J];decide),be (fun au=>au aS)];unfold C4;dsimp only;rw [ee S]
def Yz{F:T}(c:nJ h id aE O am a1 bM=true)(J:oI q id=false)(aS:iU q.x q.d.aa am a1=0)(S:¬(q.A.length:Int) < h.hD)(ba:xk (⟨id,am,aE,a1,bM,q.x,q.aY+1⟩ :: q.A)=some F):je h q id aE O am a1 bM=fx h { q with bz:=gJ q.bz h.fW.toNat id,d:=cY h q.d am,aY:=q.aY+1,A:=eL ((⟨id,am,aE,a1,bM,q.x,q.aY+1⟩ :: q.A).filter fun aI=>decide (aI.id≠F.id)) } [⟨1,q.x,h.al,id,0,am,q.d.aa⟩,ek q.x h.al (F,5)] [eB h.al q.d (F,5)]:=by
  unfold je;rw [be BB,be (by rw [J];decide),be (fun au=>au aS)];unfold C4;dsimp only;rw [be S,ba];rfl
end
end
end Go.LK.g
namespace Go.LK
open Go
def WX{Y:Nat}{f:List a7}{d:Nat}{r:a7}(c:f[d]?=some r):∀ j,(c1 (f.map (a7.row Y))).holds j→(bF r.m 1 (r.cr.map bH)).holds j∧∀ d∈(bF r.m 1 (r.cr.map bH)).dT,d∈(c1 (f.map (a7.row Y))).dT:=fun j bU=>by
  obtain ⟨G,J⟩:=Ca (bx.2 ⟨r,eF c,rfl⟩:a7.row Y r∈f.map (a7.row Y)) j bU
  obtain ⟨aA,aZ⟩:=jz j G
  exact LS
end Go.LK
namespace Go.LK.g
open Go Go.LK
section
variable {h:b3} {q:cu} {aJ:List Int} {bu:List a7} {b d:Nat} {Z:cp} {r:a7} {o:List cp} {e F:T} {f:List T}
def auf(h:b3)(id aE O code aa aP aR:Int) :
    (mP id aE O code aa aP aR=false∧(mP id aE O code aa aP aR&&decide (O=h.al)&&mo h aE)=false) ∨
    (mP id aE O code aa aP aR=true∧O≠h.al∧(mP id aE O code aa aP aR&&decide (O=h.al)&&mo h aE)=false) ∨
    (mP id aE O code aa aP aR=true∧O=h.al∧(h.k1.length:Int)≤aE∧(mP id aE O code aa aP aR&&decide (O=h.al)&&mo h aE)=false) ∨
    (mP id aE O code aa aP aR=true∧O=h.al∧¬(h.k1.length:Int)≤aE∧(mP id aE O code aa aP aR&&decide (O=h.al)&&mo h aE)=true):=by
  cases c:mP id aE O code aa aP aR with
  | false=>exact .inl ⟨rfl,rfl⟩
  | true =>
    have G:=PA.1 c
    by_cases J:O=h.al
    · by_cases aA:(h.k1.length:Int)≤aE
      · exact .inr (.inr (.inl ⟨rfl,J,aA,by unfold mo;rw [p4 (show ¬aE < (h.k1.length:Int) from by omega)];simp⟩))
      · exact .inr (.inr (.inr ⟨rfl,J,aA,by unfold mo;rw [c9 J,c9 (show 0≤aE from by omega),c9 (show aE < (h.k1.length:Int) from by omega)];rfl⟩))
    · exact .inr (.inl ⟨rfl,J,by rw [p4 J];rfl⟩)
def Wk(bg:Int)(cr:List Int)(i code:Int):(¬(bg=2∧i∈cr)∧jL bg cr i code=0∧oa bg cr i=cr) ∨
    (bg=2∧i∈cr∧code≠1∧jL bg cr i code=7)∨(bg=2∧i∈cr∧code=1∧Go.LK.bn.c8 cr i=[]∧jL bg cr i code=1) ∨
    (bg=2∧i∈cr∧code=1∧Go.LK.bn.c8 cr i≠[]∧jL bg cr i code=0∧oa bg cr i=Go.LK.bn.c8 cr i):=by
  unfold jL oa
  by_cases c:bg=2∧i∈cr
  · rw [ee c,ee c]
    by_cases G:code=1
    · rw [ee G]
      by_cases J:Go.LK.bn.c8 cr i=[]
      · exact .inr (.inr (.inl ⟨c.1,c.2,G,J,ee J⟩))
      · exact .inr (.inr (.inr ⟨c.1,c.2,G,J,be J,rfl⟩))
    · exact .inr (.inl ⟨c.1,c.2,G,be G⟩)
  · rw [be c,be c];exact .inl ⟨c,rfl,rfl⟩
def YC{i:Int}(ad:bu.map a7.cL=o)(aC:bu[b]?=some r)(c:oa r.cL.bg r.cL.cr i=r.cL.cr):bu.map a7.cL=o.set b ⟨r.cL.e,r.cL.bg,oa r.cL.bg r.cL.cr i⟩:=by
  rw [c,←ad];exact (Qe (by rw [hy,aC];rfl)).symm
def aui(h:b3)(id aE O am a1 bM:Int) :
    (ra id aE O am a1 bM=false∧nJ h id aE O am a1 bM=false) ∨
    (ra id aE O am a1 bM=true∧O≠h.al∧nJ h id aE O am a1 bM=false) ∨
    (ra id aE O am a1 bM=true∧O=h.al∧(h.k1.length:Int)≤aE∧nJ h id aE O am a1 bM=false) ∨
    (ra id aE O am a1 bM=true∧O=h.al∧¬(h.k1.length:Int)≤aE∧h.ap≤am∧nJ h id aE O am a1 bM=false) ∨
    (ra id aE O am a1 bM=true∧O=h.al∧¬(h.k1.length:Int)≤aE∧¬h.ap≤am∧nJ h id aE O am a1 bM=true∧0≤am):=by
  unfold nJ
  cases c:ra id aE O am a1 bM with
  | false=>exact .inl ⟨rfl,rfl⟩
  | true =>
    have G:=C_.1 c
    by_cases J:O=h.al
    · rw [c9 J]
      by_cases aA:(h.k1.length:Int)≤aE
      · refine .inr (.inr (.inl ⟨rfl,J,aA,?_⟩))
        have:(decide (aE=-1) || mo h aE)=false:=by unfold mo;rw [p4 (show ¬aE=-1 from by omega),p4 (show ¬aE < (h.k1.length:Int) from by omega)];simp
        rw [this];rfl
      · have bT:(decide (aE=-1) || mo h aE)=true:=by
          unfold mo
          by_cases c7:aE=-1
          · rw [c9 c7];rfl
          · rw [c9 (show 0≤aE from by omega),c9 (show aE < (h.k1.length:Int) from by omega)];simp
        rw [bT]
        by_cases aZ:h.ap≤am
        · exact .inr (.inr (.inr (.inl ⟨rfl,J,aA,aZ,by rw [p4 (show ¬am < h.ap from by omega)];rfl⟩)))
        · exact .inr (.inr (.inr (.inr ⟨rfl,J,aA,aZ,by rw [c9 (show am < h.ap from by omega)];rfl,by omega⟩)))
    · exact .inr (.inl ⟨rfl,J,by rw [p4 J];rfl⟩)
def anw(ad:bu.map a7.cL=q.n)(id:Int):(id∈q.bz∧oI q id=true)∨(id∉q.bz∧(q.A.any fun e=>decide (e.id=id))=true∧oI q id=true) ∨
    (id∉q.bz∧(q.A.any fun e=>decide (e.id=id))=false∧(∃ d,hd (bu.map a7.cL) id=some d)∧oI q id=true) ∨
    (id∉q.bz∧(q.A.any fun e=>decide (e.id=id))=false∧hd (bu.map a7.cL) id=none∧oI q id=false):=by
  unfold oI
  rw [ad]
  by_cases G:id∈q.bz
  · exact .inl ⟨G,by rw [c9 G];rfl⟩
  · rw [p4 G]
    cases J:q.A.any fun e=>decide (e.id=id) with
    | true=>exact .inr (.inl ⟨G,rfl,rfl⟩)
    | false =>
      cases aA:hd q.n id with
      | some d=>exact .inr (.inr (.inl ⟨G,rfl,⟨d,rfl⟩,rfl⟩))
      | none=>exact .inr (.inr (.inr ⟨G,rfl,rfl,rfl⟩))
def uy{id:Int}(c:(f.any fun e=>decide (e.id=id))=false):∀ F∈f,F.id≠id:=fun F az=>by
  rw [K'] at c;simpa using c F az
def Z9:∀ {f:List T},f≠[]→∃ F∈f,∀ aI∈f,iL aI F=false
  | [],c=>absurd rfl c
  | [l],_=>⟨l,by simp,fun aI ce=>by simp at ce;subst ce;rw [Dr];omega⟩
  | l :: p :: f,_=>by
    obtain ⟨F,az,c⟩:=Z9 (f:=p :: f) oU
    by_cases V:iL l F=true
    · refine ⟨l,p5,fun aI ce=>?_⟩
      rcases fb.1 ce with rfl|ce
      · rw [Dr];omega
      · have G:=c aI ce
        rw [Dr] at G ⊢;rw [KG] at V;omega
    · refine ⟨F,gS _ az,fun aI ce=>?_⟩
      rcases fb.1 ce with rfl|ce
      · simpa using V
      · exact c aI ce
def My:(f++[e]).Perm (e :: f):=GF e f
def Xx(aw:(f.map T.id).Nodup)(Q:∀ F∈f,F.id≠e.id):((e :: f).map T.id).Nodup:=by
  rw [kO,kP]
  exact aco
def at_(aw:(f.map T.id).Nodup)(Q:∀ F∈f,F.id≠e.id):eL (f++[e])=eL (e :: f):=Kq My (Xx aw Q)
def UO(aw:(f.map T.id).Nodup)(Q:∀ F∈f,F.id≠e.id):∃ F,xk (f++[e])=some F∧xk (e :: f)=some F∧eL ((f++[e]).filter fun aI=>decide (aI.id≠F.id))=eL ((e :: f).filter fun aI=>decide (aI.id≠F.id))∧((e :: f).filter fun aI=>decide (aI.id≠F.id)).length≤f.length:=by
  have yv:=Xx aw Q
  obtain ⟨F,az,ba⟩:=Z9 (f:=e :: f) oU
  refine ⟨F,Qz My yv az ba,Qz (.refl _) yv az ba,Kq (My.filter _) (yv.sublist ((zd).map _)),?_⟩
  have G:((e :: f).filter fun aI=>decide (aI.id≠F.id)).length < (e :: f).length:=by
    rcases mR ((e :: f).filter fun aI=>decide (aI.id≠F.id)).length (e :: f).length with c|c
    · exact c
    · have J:=List.Sublist.eq_of_length_le (zd (p:=fun aI:T=>decide (aI.id≠F.id)) (l:=e :: f)) c
      rw [←J] at az
      simp at az
  simp only [e6] at G;omega
def au2(gB:1≤h.ap){d:dM}(aw:d.S.length=128){m:Int}(bB:0≤m)(G:m < h.ap)(J:h.ap≤128):(cY h d m).S.take h.ap.toNat=(d.S.take h.ap.toNat).set m.toNat (fv ((d.S.take h.ap.toNat).getD m.toNat 0) 1):=by
  show (sv h.ap d.S m 1).take h.ap.toNat=_
  have d_:nd h.ap m=true:=by unfold nd;simp [bB,G]
  unfold sv;rw [ee d_,List.take_set,ps,ps,k6,ee E]
def lz(x:Int)(Z:cp):Bool:=decide (Z.bg≠0)&&decide (Z.e.ck≤x)
def u_(x:Int)(Z:cp):cp:=if lz x Z=true then cp.zero else Z
def T2{x:Int}(bp:∀ (b k:Nat) (Z H:cp),o[b]?=some Z→o[k]?=some H→Z.bg≠0→H.bg≠0→Z.e.id=H.e.id→b=k):o.map (sy ((o.filter (lz x)).map cp.e))=o.map (u_ x):=by
  refine GW fun Z cs=>?_
  unfold sy u_
  by_cases c:lz x Z=true
  · rw [ee c]
    unfold lz at c
    simp only [h6,decide_eq_true_eq] at c
    rw [ee ⟨c.1,by simp only [rl,bx,Function.comp];exact ⟨Z,pt.2 ⟨cs,by unfold lz;simp [c.1,c.2]⟩,rfl⟩⟩]
  · rw [be c]
    refine be fun ⟨G,J⟩=>?_
    simp only [rl,bx,Function.comp] at J
    obtain ⟨H,W,gj⟩:=J
    obtain ⟨jw,lf⟩:=pt.1 W
    obtain ⟨b,ac⟩:=kw.1 cs
    obtain ⟨k,ag⟩:=kw.1 jw
    have Fz:=lf
    unfold lz at Fz
    simp only [h6,decide_eq_true_eq] at Fz
    have:=bp k b H Z ag ac Fz.1 G gj
    subst this
    rw [ac] at ag;cases ag;exact c lf
structure oZ (h:b3) (q:cu) (a_:List aK) (aH:List bk) (d:Nat) (o:List cp) (j:List cI) (km:List aK) (pL:List bk):Prop where
  n:o=(q.n.take d).map (u_ q.x)++q.n.drop d
  j:j=(((q.n.take d).filter (lz q.x)).map cp.e).foldl (fun f F=>bj.drop f F.id) q.j
  r:km=a_++(((q.n.take d).filter (lz q.x)).map cp.e).map fun F=>ek q.x h.al (F,6)
  z:pL=aH++(((q.n.take d).filter (lz q.x)).map cp.e).map fun F=>eB h.al q.d (F,6)
section
variable {a_ km:List aK} {aH pL:List bk} {j:List cI}
def oZ.zero:oZ h q a_ aH 0 q.n q.j a_ aH:=⟨by simp,by simp,by simp,by simp⟩
def oZ.at(c:oZ h q a_ aH d o j km pL)(cs:o[d]?=some Z):q.n[d]?=some Z:=by
  rw [c.n] at cs
  rcases mR d q.n.length with R|R
  · rwa [Du (by rw [fc,ib];omega),fc,ib,DI E,Nat.sub_self,xx,DD] at cs
  · rw [vU (by rw [eh,fc,ib,hw];omega)] at cs;cases cs
def oZ.go(c:oZ h q a_ aH d o j km pL)(cs:o[d]?=some Z)(S:lz q.x Z=true):oZ h q a_ aH (d+1) (o.set d cp.zero) (bj.drop j Z.e.id) (km++[ek q.x h.al (Z.e,6)]) (pL++[eB h.al q.d (Z.e,6)]):=by
  have az:=c.at cs
  have R:=(dD.1 az).1
  have bA:q.n.take (d+1)=q.n.take d++[Z]:=by rw [hx,az];rfl
  refine ⟨?_,?_,?_,?_⟩
  · rw [c.n,bA,gR,aaz _ _ (by rw [fc,ib];omega),fc,ib,DI E,Nat.sub_self]
    have G:u_ q.x Z=cp.zero:=by unfold u_;rw [ee S]
    have J:q.n.drop d=q.n[d] :: q.n.drop (d+1):=qF R
    rw [J,List.set_cons_zero];simp [G]
  · rw [bA,jg,gR,p6,←c.j];simp [S]
  · rw [c.r,bA,jg];simp [S]
  · rw [c.z,bA,jg];simp [S]
def oZ.Qk(c:oZ h q a_ aH d o j km pL)(cs:o[d]?=some Z)(S:lz q.x Z=false):oZ h q a_ aH (d+1) o j km pL:=by
  have az:=c.at cs
  have R:=(dD.1 az).1
  have bA:q.n.take (d+1)=q.n.take d++[Z]:=by rw [hx,az];rfl
  refine ⟨?_,?_,?_,?_⟩
  · have:u_ q.x Z=Z:=by unfold u_;rw [S];rfl
    rw [c.n,bA,gR,qF R,(dD.1 az).2];simp [this]
  · rw [bA,jg,c.j];simp [S]
  · rw [c.r,bA,jg];simp [S]
  · rw [c.z,bA,jg];simp [S]
def oZ.len(c:oZ h q a_ aH d o j km pL)(R:d≤q.n.length):km.length≤a_.length+d∧pL.length≤aH.length+d∧j.length≤q.j.length∧o.length=q.n.length:=by
  have G:(((q.n.take d).filter (lz q.x)).map cp.e).length≤d:=by rw [fc];exact iZ (kv _ _) vX
  have J:∀ (f:List T) (j:List cI),(f.foldl (fun f F=>bj.drop f F.id) j).length≤j.length:=by
    intro f
    induction f with
    | nil=>intro j;exact oQ _
    | cons F f b6=>intro j;exact iZ (b6 _) bj.rF
  refine ⟨by rw [c.r];simp only [eh,fc] at G ⊢;omega,by rw [c.z];simp only [eh,fc] at G ⊢;omega,by rw [c.j];exact J _ _,by rw [c.n];simp only [eh,fc,ib,hw];omega⟩
def oZ.all(c:oZ h q a_ aH d o j km pL)(R:¬d < q.n.length):o=q.n.map (u_ q.x)∧j=((q.n.filter (lz q.x)).map cp.e).foldl (fun f F=>bj.drop f F.id) q.j∧km=a_++((q.n.filter (lz q.x)).map cp.e).map (fun F=>ek q.x h.al (F,6))∧pL=aH++((q.n.filter (lz q.x)).map cp.e).map (fun F=>eB h.al q.d (F,6)):=by
  obtain ⟨G,J,aA,aZ⟩:=c
  have bA:q.n.take d=q.n:=ir E
  rw [bA] at G J aA aZ
  exact ⟨by rw [G,Dt E,xA],J,aA,aZ⟩
end
def awj(aw:later q.x 1%h.qD≠0)(bp:∀ (b k:Nat) (Z H:cp),q.n[b]?=some Z→q.n[k]?=some H→Z.bg≠0→H.bg≠0→Z.e.id=H.e.id→b=k):pp h q=fx h { q with x:=later q.x 1,A:=q.A.filter (fun e=>decide (ew e (later q.x 1)=0)),n:=q.n.map (u_ (later q.x 1)),j:=((q.n.filter (lz (later q.x 1))).map cp.e).foldl (fun f F=>bj.drop f F.id) q.j }
    (((q.A.filter fun e=>!decide (ew e (later q.x 1)=0)).map fun e=>ek (later q.x 1) h.al (e,ew e (later q.x 1)))++((q.n.filter (lz (later q.x 1))).map cp.e).map fun F=>ek (later q.x 1) h.al (F,6))
    (((q.A.filter fun e=>!decide (ew e (later q.x 1)=0)).map fun e=>eB h.al q.d (e,ew e (later q.x 1)))++((q.n.filter (lz (later q.x 1))).map cp.e).map fun F=>eB h.al q.d (F,6)):=by
  unfold pp;dsimp only;rw [be aw]
  rw [←T2 (x:=later q.x 1) bp];rfl
def awi(aw:later q.x 1%h.qD=0)(bp:∀ (b k:Nat) (Z H:cp),q.n[b]?=some Z→q.n[k]?=some H→Z.bg≠0→H.bg≠0→Z.e.id=H.e.id→b=k):pp h q=fx h { q with x:=later q.x 1,A:=q.A.filter (fun e=>decide (ew e (later q.x 1)=0)),n:=q.n.map (u_ (later q.x 1)),j:=((q.n.filter (lz (later q.x 1))).map cp.e).foldl (fun f F=>bj.drop f F.id) q.j,d:=gs h q.d }
    ((((q.A.filter fun e=>!decide (ew e (later q.x 1)=0)).map fun e=>ek (later q.x 1) h.al (e,ew e (later q.x 1)))++((q.n.filter (lz (later q.x 1))).map cp.e).map fun F=>ek (later q.x 1) h.al (F,6))++[⟨9,later q.x 1,h.al,(gs h q.d).aP,sx q.d,(gs h q.d).aa,(gs h q.d).aR⟩])
    (((q.A.filter fun e=>!decide (ew e (later q.x 1)=0)).map fun e=>eB h.al q.d (e,ew e (later q.x 1)))++((q.n.filter (lz (later q.x 1))).map cp.e).map fun F=>eB h.al q.d (F,6)):=by
  unfold pp;dsimp only;rw [ee aw]
  rw [←T2 (x:=later q.x 1) bp];rfl
end
end Go.LK.g
