/-
  Walks, printed by a program of mine.
-/
import Derived.KernelRfl
import Derived.Test.YtohjlkjhpibkmaaGreatDoorE16
import Derived.Test.YtohjlkjhpibkmaaGreatDoorE24
import Derived.Test.YtohjlkjhpibkmaaGreatDoorE13
import Derived.Test.YtohjlkjhpibkmaaGreatDoorE25
set_option linter.all false
namespace Go.Proofs.YtohjlkjhpibkmaaGreatDoor
open Go Go.LK Go.Proofs.Tryz
set_option maxRecDepth 100000
set_option maxHeartbeats 4000000
def MF(s dr:Int):M prog 199 #[s,dr] [] [] (fun m B=>m=.b (dd.cc s dr)∧B=[]):=by
 exact adV
def ag8(l p:Int):M prog 227 #[l,p] [] [] (fun m B=>m=.b (IntKind.i64.wrap (l*p))∧B=[]):=by
 refine M.aM func227 a ntmps227 a fun an=>?_
 refine I 0 ?_
 refine w.n (U.mul a a) a ?_
 exact cH
def ag1(l p:Int):M prog 226 #[l,p,.func (.func 227) #[] #[]] [] [] (fun m B=>m=.b (dd.jc l p)∧B=[]):=by
 refine M.aM func226 a ntmps226 a fun an=>?_
 refine P MF ?_
 refine P MF ?_
 refine w.f (aq.dA call227 a a (ag8 (dd.cc l 2147483647) (dd.cc p 2147483647)) [] a .nil) a ?_
 rintro _ _ ⟨_,⟨rfl,rfl⟩,rfl⟩
 refine P MF ?_
 exact cH
def TB(l p:Int):M prog 133 #[l,p] [] [] (fun m B=>m=.b (dd.jc l p)∧B=[]):=by
 refine M.aM func133 a ntmps133 a fun an=>?_
 refine P ag1 ?_
 exact cH
def as4(s dr:Int):M prog 221 #[s,dr] [] [] (fun m B=>m=.b (dd.cc s dr)∧B=[]):=by
 refine M.aM func221 a ntmps221 a fun an=>?_
 refine aU (fun eC=>?_) (fun eC=>?_)
 refine aF ?_
 exact adt
 refine aU ?_ ?_
 exact R0
 refine aU ?_ ?_
 exact R0
 exact R0
def PQ(s:Int):M prog 119 #[s] [] [] (fun m B=>m=.b (dd.cc s 2147483647)∧B=[]):=by
 refine M.aM func119 a ntmps119 a fun an=>?_
 refine P as4 ?_
 exact cH
def as5(l p:Int):M prog 46 #[l,p] [] [] (fun m B=>m=.b (dd.jc l p)∧B=[]):=by
 refine M.aM func46 a ntmps46 a fun an=>?_
 refine P PQ ?_
 refine P PQ ?_
 refine w.n (U.mul a a) a ?_
 refine P PQ ?_
 exact cH
def apq(p i:Int)(av:dd.pi p i=true):M prog 123 #[p,i] [] [] (fun m B=>m=.tuple #[.agg #[p,i],.b 0]∧B=[]):=by
 have rP:=dd.JE.1 av
 refine M.aM func123 a ntmps123 a fun an=>?_
 refine I 5 ?_
 intros
 refine w.kK 13 a (p4 E) ?_
 refine I 0 ?_
 refine w.kK 17 a (p4 E) ?_
 refine I 0 ?_
 refine w.kK 21 a (p4 E) ?_
 exact aci
def apr(p i:Int)(av:dd.pi p i=false):M prog 123 #[p,i] [] [] (fun m B=>m=.tuple #[.agg #[.b 0,.b 0],.b 1]∧B=[]):=by
 have rP:=dd.ard av
 refine M.aM func123 a ntmps123 a fun an=>?_
 refine aD 5 ?_
 intros
 refine aU (fun e_=>?_) (fun e_=>?_)
 exact cH
 refine aU (fun jP=>?_) (fun jP=>?_)
 exact cH
 refine aU (fun iV=>?_) (fun iV=>?_)
 exact cH
 exact ack
def ZL(s:Nat)(i Z:Int)(av:dd.kZ i Z=true):M prog 124 #[.int .u64 (Nat.cast s:Int),i,Z] [] [] (fun m B=>m=.tuple #[.agg #[.int .u64 (Nat.cast s:Int),i,Z],.b 0]∧B=[]):=by
 have rP:=dd.XC.1 av
 refine M.aM func124 a ntmps124 a fun an=>?_
 refine I 1 ?_
 intros
 refine w.kK 10 a (p4 E) ?_
 refine I 0 ?_
 refine w.kK 14 a (p4 E) ?_
 refine I 0 ?_
 refine w.kK 18 a (p4 E) ?_
 exact aci
def ZM(s:Nat)(i Z:Int)(av:dd.kZ i Z=false):M prog 124 #[.int .u64 (Nat.cast s:Int),i,Z] [] [] (fun m B=>m=.tuple #[.agg #[.int .u64 0,.b 0,.b 0],.b 1]∧B=[]):=by
 have rP:=dd.arl av
 refine M.aM func124 a ntmps124 a fun an=>?_
 refine aD 1 ?_
 intros
 refine aU (fun fp=>?_) (fun fp=>?_)
 exact cH
 refine aU (fun e_=>?_) (fun e_=>?_)
 exact cH
 refine aU (fun jP=>?_) (fun jP=>?_)
 exact cH
 exact ack
def app(p i:Int)(av:dd.pi p i=true):M prog 126 #[.agg #[p,i]] [] [] (fun m B=>m=.b (p*i)∧B=[]):=by
 refine M.aM func126 a ntmps126 a fun an=>?_
 refine I 3 ?_
 intros
 refine w.n (U.us a a (by have au:=dd.yK av;omega)) a ?_
 refine I 0 ?_
 exact cH
def Zl(p i Z:Int)(s:Nat)(ej:Value)(f:List cj)(S:f.length≤1000)(aS:∀ H∈f,H.cW.length≤1000):M prog 49 #[.agg #[p,i,Z,.int .u64 (Nat.cast s:Int),ej]] [bF ej 14 (f.map cj.cells),hZ (f.map cj.bF)] [] (fun m B=>m=.b (dd.nv p i Z f)∧B=[]):=by
 refine M.aM func49 a ntmps49 a fun an=>?_
 refine I 0 ?_
 refine w.one (ax.b0 0 a) (fun n8=>?_)
 refine I 1 ?_
 intros
 refine js (dd.pi p i) (fun aA=>?_) (fun aA=>?_)
 refine P apq ?_
 refine I 2 ?_
 intros
 refine js (dd.kZ i Z) (fun c7=>?_) (fun c7=>?_)
 refine P ZL ?_
 refine aU ?_ ?_
 refine aF ?_
 intros
 exact aO ⟨(by rw [dd.T0 E];rfl),a⟩
 refine aD 2 ?_
 intros
 refine de (bo:=Nat) (fun d=>d≤f.length∧dd.rE p i f d=true) (fun d=>[(43,.b (d:Int))]) (fun d=>[]) (fun d=>f.length-d) 0 [1,3,41,42] ⟨by omega,dd.TZ⟩ ?_
 rintro d ⟨R,bf⟩
 refine aU ?_ ?_
 intros
 refine K.fC 4 a ?_
 obtain ⟨jG,yn⟩:=c4 (f:=f) (b:=d) E
 refine K.hZ 1 a (ar:=bF jG.dA 4 (jG.cW.map cG.cells)) (bx.2 ⟨jG,eF yn,a⟩) ?_
 refine aD 3 ?_
 intros
 refine w.one (ax.b0 2 a) (fun vb=>?_)
 refine I 1 ?_
 refine K.hW 8 Tryz.bE aN ?_
 refine P app ?_
 refine P (ahB jG.bK jG.bV jG.b8 jG.bG jG.ch jG.b' jG.cf jG.er jG.es jG.d' jG.eO jG.eP jG.eQ jG.dA jG.cW (d:Int) (f.length:Int) (p*i) (iZ (aS _ (eF bO)) bd)) ?_
 refine aU ?_ ?_
 refine aF ?_
 intros
 exact aO ⟨(by rw [dd.ahL yn bO];rfl),a⟩
 refine I 1 ?_
 intros
 exact da (d+1) ⟨by omega,dd.TY bf yn (ke.1 bO)⟩
 refine P ajA ?_
 exact adU
 refine P ZM ?_
 refine aF ?_
 intros
 exact acN
 refine P apr ?_
 refine I 2 ?_
 intros
 refine js (dd.kZ i Z) (fun rL=>?_) (fun rL=>?_)
 refine P ZL ?_
 refine aF ?_
 intros
 exact RL
 refine P ZM ?_
 refine aF ?_
 intros
 exact RL
def Yl(p i Z:Int)(s:Nat)(ej:Value)(f:List cj):M prog 20 #[.agg #[p,i,Z,.int .u64 (Nat.cast s:Int),ej]] [bF ej 14 (f.map cj.cells),hZ (f.map cj.bF)] [] (fun m B=>m=.b (dd.jc p i)∧B=[]):=by
 refine M.aM func20 a ntmps20 a fun an=>?_
 refine I 0 ?_
 refine w.one (ax.b0 0 a) (fun n8=>?_)
 refine P as5 ?_
 exact cH
def Qp(p i Z:Int)(s:Nat)(ej:Value)(sU:Value.oneCell' ej=true):M prog 52 #[.agg #[p,i,Z,.int .u64 (Nat.cast s:Int),ej]] [] [] (fun m B=>m=.b (dd.jc p i)∧B=[]):=by
 refine M.aM func52 a ntmps52 a fun an=>?_
 refine P TB ?_
 exact cH
def XB(h:g.b3)(x bS aY bb:Int)(e:Int):M prog 92 #[h.s,e] [ai h.s (g.io h x bS aY bb) 90,bF h.ej 14 (h.k1.map cj.cells)] [] (fun m B=>m=.bool (g.mo h e)∧B=[]):=by
 refine M.aM func92 a ntmps92 a fun an=>?_
 refine aU (fun eC=>?_) (fun eC=>?_)
 exact acK
 exact acK
def aq4(h:g.b3)(x bS aY bb:Int)(id aE O am a1 bM:Int)(bf:h.bC):M prog 78 #[h.s,.agg #[id,aE,O,am,a1,bM]] [ai h.s (g.io h x bS aY bb) 90,bF h.ej 14 (h.k1.map cj.cells)] [] (fun m B=>m=.bool (g.nJ h id aE O am a1 bM)∧B=[]):=by
 refine M.aM func78 a ntmps78 a fun an=>?_
 refine I 1 ?_
 intros
 refine K.ef (df [(0,34)]) [0] Tryz.bE aN a ?_
 refine P aug ?_
 refine aD 0 ?_
 refine js (decide ((if g.ra id aE O am a1 bM=true then (0:Int) else 1)=0)) (fun J=>?_) (fun J=>?_)
 have e_:=dp J
 refine aD 8 ?_
 refine js (decide (O=h.al)) (fun aZ=>?_) (fun aZ=>?_)
 have iV:=dp aZ
 refine aD 4 ?_
 refine js (decide (aE=(-1))) (fun c7=>?_) (fun c7=>?_)
 have j9:=dp c7
 exact ac'
 have kM:=fa c7
 refine P XB ?_
 refine aD 2 ?_
 refine js (g.mo h aE) (fun h2=>?_) (fun h2=>?_)
 exact ac'
 exact LU
 have pj:=fa aZ
 exact LU
 have qy:=fa J
 exact LU
def aq3(h:g.b3)(x bS aY bb:Int)(d:g.dM)(id aE O am a1 bM:Int):M prog 82 #[h.s,.agg #[id,aE,O,am,a1,bM]] [ai h.s (g.io h x bS aY bb) 90,iH h d] [] (fun m B=>m=.b (g.iU x d.aa am a1)∧B=[]):=by
 refine M.aM func82 a ntmps82 a fun an=>?_
 refine I 1 ?_
 intros
 refine K.kk Tryz.bE aN ?_
 refine aU ?_ ?_
 refine aF ?_
 intros
 exact RP
 refine I 0 ?_
 intros
 refine K.fD 6 Tryz.bE aN ?_
 refine P ah_ ?_
 refine I 0 ?_
 refine K.cond a (fun aZ=>?_) (fun aZ=>?_)
 have bT:(ab.r6 am d.aa)=false:=c_ aZ
 refine aF ?_
 exact RP
 have c7:(ab.r6 am d.aa)=true:=c_ aZ
 refine aF ?_
 exact RP
def aq5(h:g.b3)(N:g.aO)(id:Int)(bf:h.bC)(aW:N.bC h):M prog 79 #[h.s,id] [ai h.s (g.io h N.x N.bS N.aY N.bb) 90,ll h N.A,cw h.hC g.li N.cX] [fW h N.bz] (fun m B=>∃ gC,gC.bC∧gC.b7.length=N.bz.b7.length∧gC.C=(if g.p1 N id=true then N.bz.C else g.gJ N.bz.C N.bz.b7.length id)∧m=.bool (g.p1 N id)∧B=[fW h gC]):=by
 refine M.aM func79 a ntmps79 a fun an=>?_
 refine I 0 ?_
 refine js ((cx N.cX id).isSome) (fun G=>?_) (fun G=>?_)
 obtain ⟨k,ag⟩:=uK.1 G
 refine I 1 ?_
 refine w.A (aV.s0 (X:=k) (A:=true) jZ e2 j2 a a (hS.b0 2 h.hC a a) tu tu) a ?_
 refine I 1 ?_
 intros
 refine w.cq (aq.dC 0 j3 a a a a a LP a) ?_
 rintro _ _ rfl
 exact abV
 have ag:cx N.cX id=none:=by simpa using G
 refine I 1 ?_
 refine w.A (aV.s0 (X:=.agg #[.b 0,.b 0,.b 0,.b 0,.b 0,.b 0,.b 0,.b 0,Value.slice none 0 0]) (A:=false) jZ e2 j2 a a (hS.b0 2 h.hC a a) tu tu) a ?_
 refine P (as0 h N.A id bf aW.A) ?_
 refine I 0 ?_
 intros
 refine w.fz 25 a (fun bT=>?_) (fun bT=>?_)
 exact abV
 refine P (avD h N.bz id aW.bz) ?_
 rintro _ _ ⟨avx,hsn7,hrl8,hmem9,rfl,rfl⟩
 refine aF ?_
 exact aO ⟨avx,hsn7,hrl8,g.awr aW ag bT hmem9,(by simp [ed,g.p1,ag, *]),a⟩
def mN(h:g.b3)(N:g.aO):List aB:=[ai h.s (g.io h N.x N.bS N.aY N.bb) 90,iH h N.d,ll h N.A,gQ h N.af,cw h.hC g.li N.cX,c1 (g.h4 3 N.cX),hF 195 h.j N.dc,fW h N.bz,ai h.k2 (ab.iC h.bD N.y) 215,row h.dA 136 4 (h.bb.map cG.cells),row h.ej 56 14 (h.k1.map cj.cells)]
def xh(h:g.b3)(u:Nat)(dS dK:Value)(dn:List aK)(eT:List bk):List aB:=[ai u [h.s,dS,dK] 261,row dS 51 7 (dn.map aK.cells),row dK 62 23 (eT.map bk.cells)]
def xN(h:g.b3)(u:Nat)(ah:g.aO→List aK→List bk→Int→Prop)(m:Value)(B:List aB):Prop:=∃ bs dS dK a_ aH r,ah bs a_ aH r∧m=.b r∧B=xh h u dS dK a_ aH++mN h bs
def tI(h:g.b3)(ah:g.aO→List aK→List bk→Int→Prop)(m:Value)(B:List aB):Prop:=∃ bs dS dK a_ aH r,ah bs a_ aH r∧m=.tuple #[.agg #[dS,dK],.b r]∧B=[row dS 51 7 (a_.map aK.cells),row dK 62 23 (aH.map bk.cells)]++mN h bs
def A0(h:g.b3)(N:g.aO)(z:FuncId)(fP:List Value)(dO:List aB)(ah:g.aO→List aK→List bk→Int→Prop)(aS:∀ args j,(callFunc z args).run prog j=.ok (.enter z args) j)(akq:∀ u:Nat,M prog z ([Value.n u]++fP).toArray dO (xh h u (.slice none 0 0) (.slice none 0 0) [] []++mN h N) (xN h u ah))(dI:∀ bs a_ aH r,ah bs a_ aH r→r≠0→a_=[]∧aH=[]):M prog 76 #[h.s,.func (.func z) #[] fP.toArray] (dO) (mN h N) (fun m B=>tI h ah m B):=by
 refine M.aM func76 a ntmps76 a fun an=>?_
 refine P AZ ?_
 intro b9
 refine w.e1 7 a ?_
 refine aD 1 ?_
 refine w.f (aq.pF a a) a ?_
 rintro _ _ ⟨dE,rfl,rfl⟩
 refine w.dw 4 a<|K.fg 51 7 (([]:List aK).map aK.cells) a<|K.fg 62 23 (([]:List bk).map bk.cells) a ?_
 refine I 0 ?_
 refine w.f (aq.Cd (ae:=[dE]) (fP:=fP) aS a a (akq dE) [2,1,0,4,5,6,7,8,9,10,11,12,13,14] [3] bd a [ai b9 [Value.slice none 0 0,Value.slice none 0 0] 36] a (eI.sub (fun _ bI=>bI) [2,1,0,4,5,6,7,8,9,10,11,12,13,14] a)) a ?_
 rintro _ _ ⟨_,⟨S1,E1,F1,eX,j6,dQ,hR1,rfl,rfl⟩,rfl⟩
 refine aU ?_ ?_
 intros
 refine K.eV 2 a<|w.n (U.build [] [Value.slice none 0 0,Value.slice none 0 0] #[(0,1),(1,1)] runUnderlying36 zeroValue36 (X3 underlying36) a aN) a<|w.e1 1 a ?_
 refine w.cq (aq.dC 14 o2 a a a a a a a) ?_
 rintro _ _ rfl
 refine w.dw 2 a<|K.fg 51 7 (([]:List aK).map aK.cells) a<|K.fg 62 23 (([]:List bk).map bk.cells) a ?_
 refine aF ?_
 exact aO ⟨S1,_,_,_,_,dQ,(by obtain ⟨e4,dx⟩:=dI _ _ _ _ hR1 bO;rw [e4,dx] at hR1;exact hR1),a,a⟩
 refine I 1 ?_
 intros
 refine w.one (ax.row 1 a) (fun o_=>?_)
 refine w.one (ax.row 2 a) (fun ua=>?_)
 refine aF ?_
 exact aO ⟨S1,_,_,_,_,0,(by have au:dQ=0:=E;rw [au] at hR1;exact hR1),a,a⟩
def ZC(h:g.b3)(x bS aY bb:Int)(u:Nat)(dS dK:Value)(dn:List aK)(eT:List bk)(e:T)(O jt a1 bM:Int)(nK:Bool)(bf:h.bC)(E':0≤bb)(wO:bb≤1000000)(aC:dn.length≤99990)(bc:eT.length≤99990):M prog 192 #[u,e,.agg #[O,jt,a1,bM,.bool nK]] [] [ai u [h.s,dS,dK] 261,row dS 51 7 (dn.map aK.cells),row dK 62 23 (eT.map bk.cells),ai h.s (g.io h x bS aY bb) 90] (fun m B=>∃ ha ij,m=.b (g.l' h bb)∧B=[ai u [h.s,ha,ij] 261,row ha 51 7 ((dn++[(⟨5,x,h.al,e.id,0,O,g.l' h bb⟩:aK)]).map aK.cells),row ij 62 23 ((eT++[(⟨1,g.l' h bb,h.al,O,e.am,a1,bM,0,0,0,0,0,0,0,0,0,0,0,0,0,0,0,0⟩:bk)]).map bk.cells),ai h.s (g.io h x bS aY (bb+1)) 90]):=by
 have:=bf.z
 refine M.aM func192 a ntmps192 a fun an=>?_
 refine I 6 ?_
 intros
 refine K.kk Tryz.bE aN ?_
 refine P oN ?_
 refine I 0 ?_
 intro L'
 refine K.fD 16 Tryz.bE aN ?_
 refine P (ZD h u L' dK eT (⟨1,((h.al+1)*1099511627776)+((bb+1)%1099511627776),h.al,O,e.am,a1,bM,0,0,0,0,0,0,0,0,0,0,0,0,0,0,0,0⟩:bk)) ?_
 exact ac0
def aqZ(h:g.b3)(x bS aY bb:Int)(d:g.dM)(u:Nat)(dS dK:Value)(dn:List aK)(eT:List bk)(af:g.fh)(cX:List (Int×g.bn))(dc:hA)(cd:List cI)(e:T)(jd:Value)(sS:Value.oneCell' jd=true)(bf:h.bC)(cN:g.gp h af cX cd dc)(Q:e∈g.c5 af)(aC:dn.length≤99990)(bc:eT.length≤99990):M prog 89 #[h.s,u,.agg #[e.id,e.am,e.cg,e.ck,e.eN,e.dm,e.seq,.b 1,jd]] [ai h.s (g.io h x bS aY bb) 90,iH h d] [ai u [h.s,dS,dK] 261,row dS 51 7 (dn.map aK.cells),row dK 62 23 (eT.map bk.cells),gQ h af,cw h.hC g.li cX,c1 (g.h4 3 cX),hF 195 h.j dc] (fun m B=>∃ ha ij c' kb,m=.tuple #[]∧(g.c5 af).Perm (e :: g.c5 c')∧g.xP h.b1.toNat af c' e∧g.gp h c' (e3 cX e.id) (bj.drop cd e.id) kb∧B=[ai u [h.s,ha,ij] 261,row ha 51 7 ((dn++[g.ek x h.al (e,10)]).map aK.cells),row ij 62 23 ((eT++[g.eB h.al d (e,10)]).map bk.cells),gQ h c',cw h.hC g.li (e3 cX e.id),c1 (g.h4 3 (e3 cX e.id)),hF 195 h.j kb]):=by
 refine M.aM func89 a ntmps89 a fun an=>?_
 refine P anO ?_
 refine aD 1 ?_
 intros
 refine P vL ?_
 rintro _ _ ⟨L',F4,ps5,ws6,rfl,hp7,hta9,hin8,rfl⟩
 refine aF ?_
 exact aO ⟨_,_,_,_,a,hp7,hta9,hin8,a⟩
def WN(bK bV b8 bG ch b' cf bg:Int)(hg:Value)(f:List Int)(i code:Int)(ad:bg=2)(S:f.length≤1000)(bh:i∈f)(aS:code≠1):M prog 201 #[.agg #[bK,bV,b8,bG,ch,b',cf,bg,hg],i,code] [bF hg 1 (f.map bH)] [] (fun m B=>m=.tuple #[.agg #[.b 0,.b 0,.b 0,.b 0,.b 0,.b 0,.b 0,.b 0,Value.slice none 0 0],.b 7]∧B=[]):=by
 subst ad;exact anT bK bV b8 bG ch b' cf hg f i code S bh aS
def WO(bK bV b8 bG ch b' cf bg:Int)(hg:Value)(f:List Int)(i code:Int)(ad:bg=2)(S:f.length≤1000)(bh:i∈f)(aS:code=1)(bp:bn.jD f)(aC:bn.c8 f i=[]):M prog 201 #[.agg #[bK,bV,b8,bG,ch,b',cf,bg,hg],i,code] [bF hg 1 (f.map bH)] [] (fun m B=>m=.tuple #[.agg #[.b 0,.b 0,.b 0,.b 0,.b 0,.b 0,.b 0,.b 0,Value.slice none 0 0],.b 1]∧B=[]):=by
 subst ad;subst aS;exact anU bK bV b8 bG ch b' cf hg f i S bh bp aC
def WP(bK bV b8 bG ch b' cf bg:Int)(hg:Value)(f:List Int)(i code:Int)(ad:bg=2)(S:f.length≤1000)(bh:i∈f)(aS:code=1)(bp:bn.jD f)(ea:bn.c8 f i≠[]):M prog 201 #[.agg #[bK,bV,b8,bG,ch,b',cf,bg,hg],i,code] [bF hg 1 (f.map bH)] [] (fun m B=>∃ eJ,m=.tuple #[.agg #[bK,bV,b8,bG,ch,b',cf,.b 2,eJ],.b 0]∧B=[row eJ 3 1 ((bn.c8 f i).map bH)]):=by
 subst ad;subst aS;exact anS bK bV b8 bG ch b' cf hg f i S bh bp ea
def ZE(h:g.b3)(x bS aY bb:Int)(d:g.dM)(u:Nat)(dS dK:Value)(dn:List aK)(eT:List bk)(A:g.o0)(af:g.fh)(cX:List (Int×g.bn))(dc:hA)(cd:List cI)(k:g.bn)(fN aE O code aa aP aR:Int)(bf:h.bC)(R:d.bC h)(a6:A.bC h)(cN:g.gp h af cX cd dc)(gj:((A.u++g.c5 af).map T.id).Nodup)(bq:cx cX k.e.id=some k)(aC:dn.length≤80000)(bc:eT.length≤80000):M prog 96 #[u,k.e.id,.agg #[fN,aE,O,code,aa,aP,aR]] [ai h.s (g.io h x bS aY bb) 90] [ai u [h.s,dS,dK] 261,row dS 51 7 (dn.map aK.cells),row dK 62 23 (eT.map bk.cells),iH h d,ll h A,gQ h af,cw h.hC g.li cX,c1 (g.h4 3 cX),hF 195 h.j dc] (fun m B=>∃ cD ig c' lW kb hE ha ij o7 qV,m=.tuple #[]∧cD.bC h∧ig.bC h∧g.gp h c' lW hE kb∧hE.length≤cd.length∧g.Hq h x d cD A.u ig.u af c' cX lW cd hE dn o7 eT qV k fN code∧B=[ai u [h.s,ha,ij] 261,row ha 51 7 (o7.map aK.cells),row ij 62 23 (qV.map bk.cells),iH h cD,ll h ig,gQ h c',cw h.hC g.li lW,c1 (g.h4 3 lW),hF 195 h.j kb]):=by
 refine M.aM func96 a ntmps96 a fun an=>?_
 refine I 2 ?_
 intros
 refine js (decide (k.bg=2)) (fun J=>?_) (fun J=>?_)
 have e_:=dp J
 refine js (decide (fN∈k.cr)) (fun aZ=>?_) (fun aZ=>?_)
 have iV:=dp aZ
 refine js (decide (code=1)) (fun c7=>?_) (fun c7=>?_)
 have j9:=dp c7
 refine js (decide (bn.c8 k.cr fN=[])) (fun dL=>?_) (fun dL=>?_)
 have s6:=dp dL
 refine K.kD Tryz.bE ?_
 refine ar.gV 10 14 a ?_ ?_
 refine ar.fH (df [(0,10),(14,0),(10,0),(11,3),(15,0),(16,1)]) [0,7] aN a ?_
 refine aD 1 ?_
 refine aL.A a (aV.mr (X:=k) jZ e2 j2 a a (hS.fy 1 h.hC a a) vY) a ?_
 refine P (WO k.e.id k.e.am k.e.cg k.e.ck k.e.eN k.e.dm k.e.seq k.bg k.m k.cr fN code (dp J) v_ (dp aZ) (dp c7) (cN.k.ff _ _ bq).2.2.up (dp dL)) ?_
 intro Il
 refine P (vL h x bS aY bb d u dS dK dn eT af cX dc cd k.e 1 bf cN (cN.k.ff _ _ bq).1 hq hq) ?_
 rintro _ _ ⟨adZ,F13,yU,ws15,rfl,hp16,hta18,hin17,rfl⟩
 refine P (vK h x bS aY bb d u adZ F13 (dn++[g.ek x h.al (k.e,1)]) A yU (e3 cX k.e.id) ws15 (bj.drop cd k.e.id) bf R a6 hin17 (g.AL gj hp16) hq) ?_
 rintro _ _ ⟨aAQ,q21,ps22,jm23,D3,es25,S26,rfl,hk27,hq29,hin30,hon31,hfull32,rfl⟩
 refine aF ?_
 exact aO ⟨_,_,_,_,_,_,_,_,_,_,a,hk27,hq29,hin30,bj.rF,.inr (by rw [g.Wj (dp J) (dp aZ) (dp c7) (dp dL)];exact ⟨by decide,_,_,_,_,⟨hta18,hp16,rfl,rfl,rfl,rfl⟩,hon31,hfull32⟩),a⟩
 refine ar.fH (df [(0,10),(10,0),(11,3),(14,0),(15,0),(16,1)]) [0,7] aN a ?_
 refine aD 1 ?_
 refine aL.A a (aV.mr (X:=k) jZ e2 j2 a a (hS.fy 1 h.hC a a) vY) a ?_
 refine P (WO k.e.id k.e.am k.e.cg k.e.ck k.e.eN k.e.dm k.e.seq k.bg k.m k.cr fN code (dp J) v_ (dp aZ) (dp c7) (cN.k.ff _ _ bq).2.2.up (dp dL)) ?_
 refine P (vL h x bS aY bb d u dS dK dn eT af cX dc cd k.e 1 bf cN (cN.k.ff _ _ bq).1 hq hq) ?_
 intro ajt
 rintro _ _ ⟨Sx,F37,ps38,ws39,rfl,hp40,hta42,hin41,rfl⟩
 refine P (vK h x bS aY bb d u Sx F37 (dn++[g.ek x h.al (k.e,1)]) A ps38 (e3 cX k.e.id) ws39 (bj.drop cd k.e.id) bf R a6 hin41 (g.AL gj hp40) hq) ?_
 rintro _ _ ⟨aAR,q45,ps46,jm47,Mb,es49,S50,rfl,hk51,hq53,hin54,hon55,hfull56,rfl⟩
 refine aF ?_
 exact aO ⟨_,_,_,_,_,_,_,_,_,_,a,hk51,hq53,hin54,bj.rF,.inr (by rw [g.Wj (dp J) (dp aZ) (dp c7) (dp dL)];exact ⟨by decide,_,_,_,_,⟨hta42,hp40,rfl,rfl,rfl,rfl⟩,hon55,hfull56⟩),a⟩
 have XT:=fa dL
 refine K.kD Tryz.bE ?_
 refine ar.gV 10 14 a ?_ ?_
 refine ar.fH (df [(0,10),(14,0),(10,0),(11,3),(15,0),(16,1)]) [0,7] aN a ?_
 refine aD 1 ?_
 refine aL.A a (aV.mr (X:=k) jZ e2 j2 a a (hS.fy 1 h.hC a a) vY) a ?_
 refine P (WP k.e.id k.e.am k.e.cg k.e.ck k.e.eN k.e.dm k.e.seq k.bg k.m k.cr fN code (dp J) v_ (dp aZ) (dp c7) (cN.k.ff _ _ bq).2.2.up (fa dL)) ?_
 intro UR
 intro HI
 refine aD 1 ?_
 refine aL.one a (fun _ c=>by cases c<;>rfl) (ax.row 0 a) (fun Vx=>?_)
 refine aD 2 ?_
 refine K.fD 6 Tryz.bE aN ?_
 refine aD 2 ?_
 refine w.cq (aq.q' (aG:=(⟨k.e,2,HI,bn.c8 k.cr fN⟩:g.bn)) 9 jZ e2 a a a a) ?_
 rintro _ _ rfl
 refine w.nil ?_
 refine K.one (ax.row 0 a) (fun qo=>?_)
 refine K.hv (a'.trans (a'.bz [0,10,1,2,3,4,5,6,7,8,9,11] a) (a'.lx (g.yL cN.k.fE bq (⟨k.e,2,HI,bn.c8 k.cr fN⟩:g.bn)))) ?_
 refine aF ?_
 exact aO ⟨_,_,_,_,_,_,_,_,_,_,a,R,a6,⟨cN.S,cN.av,cN.k.h5 (eM:=(⟨k.e,2,HI,bn.c8 k.cr fN⟩:g.bn)) bq a ⟨.inr a,iZ bn.tl (cN.k.ff _ _ bq).2.2.c2,qo,bn.Z6 (cN.k.ff _ _ bq).2.2.up⟩,cN.Z,g.pD.put cN.j,cN.vP⟩,oQ _,.inl ⟨(g.I1 (dp J) (dp aZ) (dp c7) (fa dL)).1,a,a,a,a,a,a,(⟨k.e,2,HI,bn.c8 k.cr fN⟩:g.bn),a,(dp J).symm,(g.I1 (dp J) (dp aZ) (dp c7) (fa dL)).2.symm,a⟩,a⟩
 refine ar.fH (df [(0,10),(10,0),(11,3),(14,0),(15,0),(16,1)]) [0,7] aN a ?_
 refine aD 1 ?_
 refine aL.A a (aV.mr (X:=k) jZ e2 j2 a a (hS.fy 1 h.hC a a) vY) a ?_
 refine P (WP k.e.id k.e.am k.e.cg k.e.ck k.e.eN k.e.dm k.e.seq k.bg k.m k.cr fN code (dp J) v_ (dp aZ) (dp c7) (cN.k.ff _ _ bq).2.2.up (fa dL)) ?_
 intro HK
 refine aD 3 ?_
 intro UT
 refine aL.one a (fun _ c=>by cases c<;>rfl) (ax.row 1 a) (fun NU=>?_)
 refine aD 2 ?_
 refine K.fD 6 Tryz.bE aN ?_
 refine aD 2 ?_
 refine w.cq (aq.q' (aG:=(⟨k.e,2,HK,bn.c8 k.cr fN⟩:g.bn)) 9 jZ e2 a a a a) ?_
 rintro _ _ rfl
 refine w.nil ?_
 refine K.one (ax.row 1 a) (fun qo=>?_)
 refine K.hv (a'.trans (a'.bz [1,10,0,2,3,4,5,6,7,8,9,11] a) (a'.lx (g.yL cN.k.fE bq (⟨k.e,2,HK,bn.c8 k.cr fN⟩:g.bn)))) ?_
 refine aF ?_
 exact aO ⟨_,_,_,_,_,_,_,_,_,_,a,R,a6,⟨cN.S,cN.av,cN.k.h5 (eM:=(⟨k.e,2,HK,bn.c8 k.cr fN⟩:g.bn)) bq a ⟨.inr a,iZ bn.tl (cN.k.ff _ _ bq).2.2.c2,qo,bn.Z6 (cN.k.ff _ _ bq).2.2.up⟩,cN.Z,g.pD.put cN.j,cN.vP⟩,oQ _,.inl ⟨(g.I1 (dp J) (dp aZ) (dp c7) (fa dL)).1,a,a,a,a,a,a,(⟨k.e,2,HK,bn.c8 k.cr fN⟩:g.bn),a,(dp J).symm,(g.I1 (dp J) (dp aZ) (dp c7) (fa dL)).2.symm,a⟩,a⟩
 have aA4:=fa c7
 refine K.kD Tryz.bE ?_
 refine ar.gV 10 14 a ?_ ?_
 refine ar.fH (df [(0,10),(14,0),(10,0),(11,3),(15,0),(16,1)]) [0,7] aN a ?_
 refine aD 1 ?_
 refine aL.A a (aV.mr (X:=k) jZ e2 j2 a a (hS.fy 1 h.hC a a) vY) a ?_
 refine P (WN k.e.id k.e.am k.e.cg k.e.ck k.e.eN k.e.dm k.e.seq k.bg k.m k.cr fN code (dp J) v_ (dp aZ) (fa c7)) ?_
 intro ayK
 refine P (vL h x bS aY bb d u dS dK dn eT af cX dc cd k.e 7 bf cN (cN.k.ff _ _ bq).1 hq hq) ?_
 rintro _ _ ⟨SB,F71,ps72,ws73,rfl,hp74,hta76,hin75,rfl⟩
 refine P (vK h x bS aY bb d u SB F71 (dn++[g.ek x h.al (k.e,7)]) A ps72 (e3 cX k.e.id) ws73 (bj.drop cd k.e.id) bf R a6 hin75 (g.AL gj hp74) hq) ?_
 rintro _ _ ⟨aAS,q79,ps80,jm81,E82,es83,S84,rfl,hk85,hq87,hin88,hon89,hfull90,rfl⟩
 refine aF ?_
 exact aO ⟨_,_,_,_,_,_,_,_,_,_,a,hk85,hq87,hin88,bj.rF,.inr (by rw [g.Wi (dp J) (dp aZ) (fa c7)];exact ⟨by decide,_,_,_,_,⟨hta76,hp74,rfl,rfl,rfl,rfl⟩,hon89,hfull90⟩),a⟩
 refine ar.fH (df [(0,10),(10,0),(11,3),(14,0),(15,0),(16,1)]) [0,7] aN a ?_
 refine aD 1 ?_
 refine aL.A a (aV.mr (X:=k) jZ e2 j2 a a (hS.fy 1 h.hC a a) vY) a ?_
 refine P (WN k.e.id k.e.am k.e.cg k.e.ck k.e.eN k.e.dm k.e.seq k.bg k.m k.cr fN code (dp J) v_ (dp aZ) (fa c7)) ?_
 refine P (vL h x bS aY bb d u dS dK dn eT af cX dc cd k.e 7 bf cN (cN.k.ff _ _ bq).1 hq hq) ?_
 intro ayO
 rintro _ _ ⟨Me,F95,ps96,ws97,rfl,hp98,hta100,hin99,rfl⟩
 refine P (vK h x bS aY bb d u Me F95 (dn++[g.ek x h.al (k.e,7)]) A ps96 (e3 cX k.e.id) ws97 (bj.drop cd k.e.id) bf R a6 hin99 (g.AL gj hp98) hq) ?_
 rintro _ _ ⟨aAP,q103,ps104,jm105,E106,es107,S108,rfl,hk109,hq111,hin112,hon113,hfull114,rfl⟩
 refine aF ?_
 exact aO ⟨_,_,_,_,_,_,_,_,_,_,a,hk109,hq111,hin112,bj.rF,.inr (by rw [g.Wi (dp J) (dp aZ) (fa c7)];exact ⟨by decide,_,_,_,_,⟨hta100,hp98,rfl,rfl,rfl,rfl⟩,hon113,hfull114⟩),a⟩
 have aAZ:=fa aZ
 refine K.kD Tryz.bE ?_
 refine ar.gV 10 14 a ?_ ?_
 refine ar.fH (df [(0,10),(14,0),(10,0),(11,3),(15,0),(16,1)]) [0,7] aN a ?_
 refine aD 1 ?_
 refine aL.A a (aV.mr (X:=k) jZ e2 j2 a a (hS.fy 1 h.hC a a) vY) a ?_
 refine P (Jc k.e.id k.e.am k.e.cg k.e.ck k.e.eN k.e.dm k.e.seq k.bg k.m k.cr fN code v_ (.inr (fa aZ))) ?_
 intro ajj
 intro Hz
 refine aD 1 ?_
 refine aL.one a (fun _ c=>by cases c<;>rfl) (ax.row 0 a) (fun NN=>?_)
 refine aD 2 ?_
 refine K.fD 6 Tryz.bE aN ?_
 refine aD 2 ?_
 refine w.cq (aq.q' (aG:=(⟨k.e,k.bg,Hz,k.cr⟩:g.bn)) 9 jZ e2 a a a a) ?_
 rintro _ _ rfl
 refine w.nil ?_
 refine K.one (ax.row 0 a) (fun qo=>?_)
 refine K.hv (a'.trans (a'.bz [0,10,1,2,3,4,5,6,7,8,9,11] a) (a'.lx (g.yL cN.k.fE bq (⟨k.e,k.bg,Hz,k.cr⟩:g.bn)))) ?_
 refine aF ?_
 exact aO ⟨_,_,_,_,_,_,_,_,_,_,a,R,a6,⟨cN.S,cN.av,cN.k.h5 (eM:=(⟨k.e,k.bg,Hz,k.cr⟩:g.bn)) bq a ⟨(cN.k.ff _ _ bq).2.2.bg,(cN.k.ff _ _ bq).2.2.c2,qo,(cN.k.ff _ _ bq).2.2.up⟩,cN.Z,g.pD.put cN.j,cN.vP⟩,oQ _,.inl ⟨(g.yx (code:=code) (fun au=>(fa aZ) au.2)).1,a,a,a,a,a,a,(⟨k.e,k.bg,Hz,k.cr⟩:g.bn),a,a,(g.yx (code:=code) (fun au=>(fa aZ) au.2)).2.symm,a⟩,a⟩
 refine ar.fH (df [(0,10),(10,0),(11,3),(14,0),(15,0),(16,1)]) [0,7] aN a ?_
 refine aD 1 ?_
 refine aL.A a (aV.mr (X:=k) jZ e2 j2 a a (hS.fy 1 h.hC a a) vY) a ?_
 refine P (Jc k.e.id k.e.am k.e.cg k.e.ck k.e.eN k.e.dm k.e.seq k.bg k.m k.cr fN code v_ (.inr (fa aZ))) ?_
 intro HA
 refine aD 3 ?_
 intro aym
 refine aL.one a (fun _ c=>by cases c<;>rfl) (ax.row 1 a) (fun azo=>?_)
 refine aD 2 ?_
 refine K.fD 6 Tryz.bE aN ?_
 refine aD 2 ?_
 refine w.cq (aq.q' (aG:=(⟨k.e,k.bg,HA,k.cr⟩:g.bn)) 9 jZ e2 a a a a) ?_
 rintro _ _ rfl
 refine w.nil ?_
 refine K.one (ax.row 1 a) (fun qo=>?_)
 refine K.hv (a'.trans (a'.bz [1,10,0,2,3,4,5,6,7,8,9,11] a) (a'.lx (g.yL cN.k.fE bq (⟨k.e,k.bg,HA,k.cr⟩:g.bn)))) ?_
 refine aF ?_
 exact aO ⟨_,_,_,_,_,_,_,_,_,_,a,R,a6,⟨cN.S,cN.av,cN.k.h5 (eM:=(⟨k.e,k.bg,HA,k.cr⟩:g.bn)) bq a ⟨(cN.k.ff _ _ bq).2.2.bg,(cN.k.ff _ _ bq).2.2.c2,qo,(cN.k.ff _ _ bq).2.2.up⟩,cN.Z,g.pD.put cN.j,cN.vP⟩,oQ _,.inl ⟨(g.yx (code:=code) (fun au=>(fa aZ) au.2)).1,a,a,a,a,a,a,(⟨k.e,k.bg,HA,k.cr⟩:g.bn),a,a,(g.yx (code:=code) (fun au=>(fa aZ) au.2)).2.symm,a⟩,a⟩
 have aA0:=fa J
 refine K.kD Tryz.bE ?_
 refine ar.gV 10 14 a ?_ ?_
 refine ar.fH (df [(0,10),(14,0),(10,0),(11,3),(15,0),(16,1)]) [0,7] aN a ?_
 refine aD 1 ?_
 refine aL.A a (aV.mr (X:=k) jZ e2 j2 a a (hS.fy 1 h.hC a a) vY) a ?_
 refine P (Jc k.e.id k.e.am k.e.cg k.e.ck k.e.eN k.e.dm k.e.seq k.bg k.m k.cr fN code v_ (.inl (fa J))) ?_
 intro ayn
 intro HB
 refine aD 1 ?_
 refine aL.one a (fun _ c=>by cases c<;>rfl) (ax.row 0 a) (fun ajW=>?_)
 refine aD 2 ?_
 refine K.fD 6 Tryz.bE aN ?_
 refine aD 2 ?_
 refine w.cq (aq.q' (aG:=(⟨k.e,k.bg,HB,k.cr⟩:g.bn)) 9 jZ e2 a a a a) ?_
 rintro _ _ rfl
 refine w.nil ?_
 refine K.one (ax.row 0 a) (fun qo=>?_)
 refine K.hv (a'.trans (a'.bz [0,10,1,2,3,4,5,6,7,8,9,11] a) (a'.lx (g.yL cN.k.fE bq (⟨k.e,k.bg,HB,k.cr⟩:g.bn)))) ?_
 refine aF ?_
 exact aO ⟨_,_,_,_,_,_,_,_,_,_,a,R,a6,⟨cN.S,cN.av,cN.k.h5 (eM:=(⟨k.e,k.bg,HB,k.cr⟩:g.bn)) bq a ⟨(cN.k.ff _ _ bq).2.2.bg,(cN.k.ff _ _ bq).2.2.c2,qo,(cN.k.ff _ _ bq).2.2.up⟩,cN.Z,g.pD.put cN.j,cN.vP⟩,oQ _,.inl ⟨(g.yx (code:=code) (fun au=>(fa J) au.1)).1,a,a,a,a,a,a,(⟨k.e,k.bg,HB,k.cr⟩:g.bn),a,a,(g.yx (code:=code) (fun au=>(fa J) au.1)).2.symm,a⟩,a⟩
 refine ar.fH (df [(0,10),(10,0),(11,3),(14,0),(15,0),(16,1)]) [0,7] aN a ?_
 refine aD 1 ?_
 refine aL.A a (aV.mr (X:=k) jZ e2 j2 a a (hS.fy 1 h.hC a a) vY) a ?_
 refine P (Jc k.e.id k.e.am k.e.cg k.e.ck k.e.eN k.e.dm k.e.seq k.bg k.m k.cr fN code v_ (.inl (fa J))) ?_
 intro HC
 refine aD 3 ?_
 intro ayr
 refine aL.one a (fun _ c=>by cases c<;>rfl) (ax.row 1 a) (fun ajX=>?_)
 refine aD 2 ?_
 refine K.fD 6 Tryz.bE aN ?_
 refine aD 2 ?_
 refine w.cq (aq.q' (aG:=(⟨k.e,k.bg,HC,k.cr⟩:g.bn)) 9 jZ e2 a a a a) ?_
 rintro _ _ rfl
 refine w.nil ?_
 refine K.one (ax.row 1 a) (fun qo=>?_)
 refine K.hv (a'.trans (a'.bz [1,10,0,2,3,4,5,6,7,8,9,11] a) (a'.lx (g.yL cN.k.fE bq (⟨k.e,k.bg,HC,k.cr⟩:g.bn)))) ?_
 refine aF ?_
 exact aO ⟨_,_,_,_,_,_,_,_,_,_,a,R,a6,⟨cN.S,cN.av,cN.k.h5 (eM:=(⟨k.e,k.bg,HC,k.cr⟩:g.bn)) bq a ⟨(cN.k.ff _ _ bq).2.2.bg,(cN.k.ff _ _ bq).2.2.c2,qo,(cN.k.ff _ _ bq).2.2.up⟩,cN.Z,g.pD.put cN.j,cN.vP⟩,oQ _,.inl ⟨(g.yx (code:=code) (fun au=>(fa J) au.1)).1,a,a,a,a,a,a,(⟨k.e,k.bg,HC,k.cr⟩:g.bn),a,a,(g.yx (code:=code) (fun au=>(fa J) au.1)).2.symm,a⟩,a⟩
def WL(bK bV b8 bG ch b' cf:Int)(fV br:Value)(a6:Value.oneCell' fV=true)(f:List Int)(aC:f=[]):M prog 193 #[.agg #[bK,bV,b8,bG,ch,b',cf,.b 1,fV],br] [bF br 1 (f.map bH)] [] (fun m B=>m=.tuple #[.agg #[.b 0,.b 0,.b 0,.b 0,.b 0,.b 0,.b 0,.b 0,.slice none 0 0],.b 1,.b 0]∧B=[]):=by
 subst aC;exact anP bK bV b8 bG ch b' cf fV br a6
def aq1(h:g.b3)(x bS aY bb:Int)(d:g.dM)(u:Nat)(dS dK:Value)(dn:List aK)(eT:List bk)(af:g.fh)(cX:List (Int×g.bn))(dc:hA)(cd:List cI)(y:ab.ht)(e:T)(jd:Value)(k:g.bn)(sS:Value.oneCell' jd=true)(bf:h.bC)(cN:g.gp h af cX cd dc)(Q:e∈g.c5 af)(bq:cx cX e.id=some k)(rU:k.e=e)(E':0≤bb)(wO:bb≤90000)(AJ:cd.length≤90000)(aC:dn.length≤90000)(bc:eT.length≤90000):M prog 88 #[h.s,u,.agg #[e.id,e.am,e.cg,e.ck,e.eN,e.dm,e.seq,.b 1,jd]] [iH h d,ai h.k2 (ab.iC h.bD y) 215,bF h.dA 4 (h.bb.map cG.cells)] [ai u [h.s,dS,dK] 261,row dS 51 7 (dn.map aK.cells),row dK 62 23 (eT.map bk.cells),ai h.s (g.io h x bS aY bb) 90,gQ h af,cw h.hC g.li cX,c1 (g.h4 3 cX),hF 195 h.j dc] (fun m B=>∃ ha ij c' lW kb hE o7 qV fk,m=.tuple #[]∧g.gp h c' lW hE kb∧g.zv h x d y e af c' cX lW cd hE bb fk dn o7 eT qV∧(bb≤fk∧fk≤bb+6)∧hE.length≤cd.length+6∧B=[ai u [h.s,ha,ij] 261,row ha 51 7 (o7.map aK.cells),row ij 62 23 (qV.map bk.cells),ai h.s (g.io h x bS aY fk) 90,gQ h c',cw h.hC g.li lW,c1 (g.h4 3 lW),hF 195 h.j kb]):=by
 have:=bf.z
 have:=g.r7 (fun i=>g.fX i d.aR e.am x e.ck (g.fI y h.bD i.O e.am x)) h.bb
 refine M.aM func88 a ntmps88 a fun an=>?_
 refine I 4 ?_
 intros
 refine K.kD Tryz.bE ?_
 refine ar.gV 19 20 a ?_ ?_
 refine ar.fH (df [(0,19),(20,0),(19,0),(21,0)]) [0,5] aN a ?_
 refine P JC ?_
 refine P (Uw h.k2 h.bD y d.aR e.am x e.ck h.b1 h.hD h.qD h.bm h.fW h.bD h.sE h.me h.f2 h.f3 h.f4 h.f5 h.f6 h.dA h.bb bf.Aj (by have au:=bf.aS;omega)) ?_
 intro dE
 intro fd
 refine aD 1 ?_
 refine aL.one a (fun _ c=>by cases c<;>rfl) (ax.row 0 a) (fun o_=>?_)
 refine aU ?_ ?_
 refine aD 2 ?_
 intros
 refine P vL ?_
 rintro _ _ ⟨D6,F9,ps10,ws11,rfl,hp12,hta14,hin13,rfl⟩
 refine aF ?_
 exact aO ⟨_,_,_,_,_,_,_,_,_,a,hin13,⟨⟨oU,oU⟩,.inl ⟨bO,a,hta14,hp12,a,a,a,a⟩⟩,⟨sf _,by omega⟩,iZ bj.rF E,a⟩
 intros
 refine K.fC 7 a<|K.fg 3 1 (([]:List Int).map bH) a ?_
 refine aD 2 ?_
 refine K.gw (bo:=Nat×Value×List Int×Value×Value×List aK×List bk×Int) (fun (hn,NV,c2,EV1,FV1,evs1,frs1,c0)=>hn≤(g.mw (fun i=>g.fX i d.aR e.am x e.ck (g.fI y h.bD i.O e.am x)) h.bb).2.length∧g.l8 h x e (g.mw (fun i=>g.fX i d.aR e.am x e.ck (g.fI y h.bD i.O e.am x)) h.bb).2 hn dn evs1 eT frs1 bb c0 c2) (fun (hn,NV,c2,EV1,FV1,evs1,frs1,c0)=>[(8,NV),(51,.b (hn:Int))]) (fun (hn,NV,c2,EV1,FV1,evs1,frs1,c0)=>[ai u [h.s,EV1,FV1] 261,row EV1 51 7 (evs1.map aK.cells),row FV1 62 23 (frs1.map bk.cells),ai h.s (g.io h x bS aY c0) 90,row NV 3 1 (c2.map bH)]) (fun (hn,NV,c2,EV1,FV1,evs1,frs1,c0)=>(g.mw (fun i=>g.fX i d.aR e.am x e.ck (g.fI y h.bD i.O e.am x)) h.bb).2.length-hn) ⟨0,Value.slice none 0 0,[],dS,dK,dn,eT,bb⟩ [0,1,5,6,49,50] [5,6,7,8,0] [3,4,1,9,10,11,12] ⟨by omega,g.l8.zero⟩ ⟨a,(hM E),trivial⟩ a a ?_
 rintro ⟨hn,NV,c2,EV1,FV1,evs1,frs1,c0⟩ ⟨R,g_⟩
 have:=g_.z
 refine aU ?_ ?_
 refine I 0 ?_
 intros
 obtain ⟨rG,An⟩:=c4 (f:=((g.mw (fun i=>g.fX i d.aR e.am x e.ck (g.fI y h.bD i.O e.am x)) h.bb).2)) (b:=hn) E
 refine aU ?_ ?_
 refine P oN ?_
 refine aD 1 ?_
 intro _ yR Su
 exact K.ms ⟨hn+1,NV,c2,Su,FV1,evs1++[(⟨6,x,h.al,e.id,rG.code,rG.O,0⟩:aK)],frs1,c0⟩ [0,1,5,6,49,50] [0,1,3,4,5] [6,7,8,9,10,11,12] ⟨by omega,g_.skip An yR⟩ kR ⟨a,(hM E),trivial⟩ a a
 refine P ZC ?_
 intro _ yR
 rintro _ _ ⟨L_,F23,rfl,rfl⟩
 refine I 1 ?_
 refine K.cond a (fun wL=>?_) (fun wL=>?_)
 refine I 0 ?_
 refine w.f (aq.fs bH [g.l' h c0] gz dt iF a a a aN a a) a ?_
 rintro Mt _ rfl
 refine aD 2 ?_
 intro Mu
 exact K.ms ⟨hn+1,Mu,c2++([g.l' h c0]),L_,F23,evs1++[(⟨5,x,h.al,e.id,0,rG.O,g.l' h c0⟩:aK)],frs1++[(⟨1,g.l' h c0,h.al,rG.O,e.am,rG.a1,rG.bM,0,0,0,0,0,0,0,0,0,0,0,0,0,0,0,0⟩:bk)],(c0+1)⟩ [0,1,5,6,49,50] [1,2,3,4,6] [7,8,9,10,11,12,13] ⟨by omega,g_.Jr An yR wL⟩ kR ⟨a,(hM E),trivial⟩ a a
 refine aD 1 ?_
 exact K.ms ⟨hn+1,NV,c2,L_,F23,evs1++[(⟨5,x,h.al,e.id,0,rG.O,g.l' h c0⟩:aK)],frs1++[(⟨1,g.l' h c0,h.al,rG.O,e.am,rG.a1,rG.bM,0,0,0,0,0,0,0,0,0,0,0,0,0,0,0,0⟩:bk)],(c0+1)⟩ [0,1,5,6,49,50] [0,1,2,3,5] [6,7,8,9,10,11,12] ⟨by omega,g_.call An yR wL⟩ kR ⟨a,(hM E),trivial⟩ a a
 refine I 0 ?_
 intros
 refine js (decide (c2=[])) (fun rM=>?_) (fun rM=>?_)
 have aA1:=dp rM
 refine P WL ?_
 refine aD 3 ?_
 intros
 refine P vL ?_
 rintro _ _ ⟨aed,F33,ps34,ws35,rfl,hp36,hta38,hin37,rfl⟩
 refine aF ?_
 exact aO ⟨_,_,_,_,_,_,_,_,_,a,hin37,⟨⟨LD,LC⟩,.inr ⟨(ke.1 bO),_,_,c2,g_.done E,.inl ⟨dp rM,hta38,hp36,a,a,a,a⟩⟩⟩,⟨g_.i',LH⟩,iZ bj.rF E,a⟩
 have aA3:=fa rM
 refine P WK ?_
 refine I 1 ?_
 intro BY _
 refine w.one (ax.row 1 a) (fun aj3=>?_)
 refine I 1 ?_
 refine K.fD 7 Tryz.bE aN ?_
 refine aD 3 ?_
 refine w.cq (aq.q' (aG:=(⟨e,2,BY,bn.rising c2⟩:g.bn)) 11 jZ e2 a a a a) ?_
 rintro _ _ rfl
 refine w.dw 2 a ?_
 refine K.one (ax.row 1 a) (fun qo=>?_)
 refine K.hv (a'.trans (a'.bz [1,12,0,2,3,4,5,6,7,8,9,10,11,13] a) (a'.lx (g.yL cN.k.fE bq (⟨e,2,BY,bn.rising c2⟩:g.bn)))) ?_
 refine aD 1 ?_
 refine K.gw (bo:=Nat×hA×List cI) (fun (b,l4,iq)=>b≤c2.length∧bj.hI iq l4∧g.pD iq (e' cX e.id (⟨e,2,BY,bn.rising c2⟩:g.bn))∧iq.length≤cd.length+b∧iq=(c2.take b).foldl (fun AT l5=>bj.add AT l5 e.id) cd) (fun (b,l4,iq)=>[(100,.b (b:Int))]) (fun (b,l4,iq)=>[hF 195 h.j l4]) (fun (b,l4,iq)=>c2.length-b) ⟨0,dc,cd⟩ [0,6,98,99] [12] [0,1,2,3,4,5,6,7,8,9,10,11] ⟨by omega,cN.Z,g.pD.put cN.j,by omega,rfl⟩ ⟨(hM E),trivial⟩ a a ?_
 rintro ⟨b,l4,iq⟩ ⟨ac,Fx,gk,hwn,hwf⟩
 refine aU ?_ ?_
 refine I 0 ?_
 intros
 obtain ⟨Na,akv⟩:=c4 (f:=c2) (b:=b) E
 refine aD 2 ?_
 refine K.fD 7 Tryz.bE aN ?_
 refine P Z' ?_
 rintro _ _ ⟨rfl,ws47,hr48,rfl⟩
 refine aD 1 ?_
 exact K.ms ⟨b+1,ws47,bj.add iq Na e.id⟩ [0,6,98,99] [0] [1,2,3,4,5,6,7,8,9,10,11,12] ⟨by omega,hr48,gk.add Rk,(by have au:=g.Tn (f:=iq) (i:=Na) (k:=e.id);omega),g.UK (z:=fun AT l5=>bj.add AT l5 e.id) akv hwf⟩ kR ⟨(hM E),trivial⟩ a a
 refine aF ?_
 intros
 exact aO ⟨_,_,_,_,_,_,_,_,_,a,⟨cN.S,cN.av,cN.k.h5 (eM:=(⟨e,2,BY,bn.rising c2⟩:g.bn)) bq rU.symm ⟨.inr a,abF,qo,bn.Gf c2⟩,Fx,gk,LG⟩,⟨⟨LD,LC⟩,.inr ⟨(ke.1 bO),_,_,c2,g_.done E,.inr ⟨fa rM,a,a,a,g.UJ hwf E,(⟨e,2,BY,bn.rising c2⟩:g.bn),a,a,a,a⟩⟩⟩,⟨g_.i',LH⟩,LG,a⟩
 refine ar.fH (df [(0,19),(19,0),(20,0),(21,0)]) [0,5] aN a ?_
 refine P JC ?_
 refine P (Uw h.k2 h.bD y d.aR e.am x e.ck h.b1 h.hD h.qD h.bm h.fW h.bD h.sE h.me h.f2 h.f3 h.f4 h.f5 h.f6 h.dA h.bb bf.Aj (by have au:=bf.aS;omega)) ?_
 intro aey
 refine aD 3 ?_
 intro ayH
 refine aL.one a (fun _ c=>by cases c<;>rfl) (ax.row 1 a) (fun azY=>?_)
 refine aU ?_ ?_
 refine aD 2 ?_
 intros
 refine P vL ?_
 rintro _ _ ⟨axK,F56,ps57,ws58,rfl,hp59,hta61,hin60,rfl⟩
 refine aF ?_
 exact aO ⟨_,_,_,_,_,_,_,_,_,a,hin60,⟨⟨oU,oU⟩,.inl ⟨bO,a,hta61,hp59,a,a,a,a⟩⟩,⟨sf _,by omega⟩,iZ bj.rF E,a⟩
 intros
 refine K.fC 7 a<|K.fg 3 1 (([]:List Int).map bH) a ?_
 refine aD 2 ?_
 refine K.gw (bo:=Nat×Value×List Int×Value×Value×List aK×List bk×Int) (fun (hn,NV,c2,EV1,FV1,evs1,frs1,c0)=>hn≤(g.mw (fun i=>g.fX i d.aR e.am x e.ck (g.fI y h.bD i.O e.am x)) h.bb).2.length∧g.l8 h x e (g.mw (fun i=>g.fX i d.aR e.am x e.ck (g.fI y h.bD i.O e.am x)) h.bb).2 hn dn evs1 eT frs1 bb c0 c2) (fun (hn,NV,c2,EV1,FV1,evs1,frs1,c0)=>[(8,NV),(51,.b (hn:Int))]) (fun (hn,NV,c2,EV1,FV1,evs1,frs1,c0)=>[ai u [h.s,EV1,FV1] 261,row EV1 51 7 (evs1.map aK.cells),row FV1 62 23 (frs1.map bk.cells),ai h.s (g.io h x bS aY c0) 90,row NV 3 1 (c2.map bH)]) (fun (hn,NV,c2,EV1,FV1,evs1,frs1,c0)=>(g.mw (fun i=>g.fX i d.aR e.am x e.ck (g.fI y h.bD i.O e.am x)) h.bb).2.length-hn) ⟨0,Value.slice none 0 0,[],dS,dK,dn,eT,bb⟩ [0,1,5,6,49,50] [5,6,7,8,0] [3,4,2,9,10,11,12] ⟨by omega,g.l8.zero⟩ ⟨a,(hM E),trivial⟩ a a ?_
 rintro ⟨hn,NV,c2,EV1,FV1,evs1,frs1,c0⟩ ⟨R,g_⟩
 have:=g_.z
 refine aU ?_ ?_
 refine I 0 ?_
 intros
 obtain ⟨sD,Ob⟩:=c4 (f:=((g.mw (fun i=>g.fX i d.aR e.am x e.ck (g.fI y h.bD i.O e.am x)) h.bb).2)) (b:=hn) E
 refine aU ?_ ?_
 refine P oN ?_
 refine aD 1 ?_
 intro _ JO Sz
 exact K.ms ⟨hn+1,NV,c2,Sz,FV1,evs1++[(⟨6,x,h.al,e.id,sD.code,sD.O,0⟩:aK)],frs1,c0⟩ [0,1,5,6,49,50] [0,1,3,4,5] [6,7,8,9,10,11,12] ⟨by omega,g_.skip Ob JO⟩ kR ⟨a,(hM E),trivial⟩ a a
 refine P ZC ?_
 intro _ JO
 rintro _ _ ⟨SA,F70,rfl,rfl⟩
 refine I 1 ?_
 refine K.cond a (fun Ix=>?_) (fun Ix=>?_)
 refine I 0 ?_
 refine w.f (aq.fs bH [g.l' h c0] gz dt iF a a a aN a a) a ?_
 rintro Ta _ rfl
 refine aD 2 ?_
 intro aeA
 exact K.ms ⟨hn+1,aeA,c2++([g.l' h c0]),SA,F70,evs1++[(⟨5,x,h.al,e.id,0,sD.O,g.l' h c0⟩:aK)],frs1++[(⟨1,g.l' h c0,h.al,sD.O,e.am,sD.a1,sD.bM,0,0,0,0,0,0,0,0,0,0,0,0,0,0,0,0⟩:bk)],(c0+1)⟩ [0,1,5,6,49,50] [1,2,3,4,6] [7,8,9,10,11,12,13] ⟨by omega,g_.Jr Ob JO Ix⟩ kR ⟨a,(hM E),trivial⟩ a a
 refine aD 1 ?_
 exact K.ms ⟨hn+1,NV,c2,SA,F70,evs1++[(⟨5,x,h.al,e.id,0,sD.O,g.l' h c0⟩:aK)],frs1++[(⟨1,g.l' h c0,h.al,sD.O,e.am,sD.a1,sD.bM,0,0,0,0,0,0,0,0,0,0,0,0,0,0,0,0⟩:bk)],(c0+1)⟩ [0,1,5,6,49,50] [0,1,2,3,5] [6,7,8,9,10,11,12] ⟨by omega,g_.call Ob JO Ix⟩ kR ⟨a,(hM E),trivial⟩ a a
 refine I 0 ?_
 intros
 refine js (decide (c2=[])) (fun Cs=>?_) (fun Cs=>?_)
 have aA5:=dp Cs
 refine P WL ?_
 refine aD 3 ?_
 intros
 refine P vL ?_
 rintro _ _ ⟨axO,F80,ps81,ws82,rfl,hp83,hta85,hin84,rfl⟩
 refine aF ?_
 exact aO ⟨_,_,_,_,_,_,_,_,_,a,hin84,⟨⟨LD,LC⟩,.inr ⟨(ke.1 bO),_,_,c2,g_.done E,.inl ⟨dp Cs,hta85,hp83,a,a,a,a⟩⟩⟩,⟨g_.i',LH⟩,iZ bj.rF E,a⟩
 have aA6:=fa Cs
 refine P WK ?_
 refine I 1 ?_
 intro Ev _
 refine w.one (ax.row 1 a) (fun aAb=>?_)
 refine I 1 ?_
 refine K.fD 7 Tryz.bE aN ?_
 refine aD 3 ?_
 refine w.cq (aq.q' (aG:=(⟨e,2,Ev,bn.rising c2⟩:g.bn)) 11 jZ e2 a a a a) ?_
 rintro _ _ rfl
 refine w.dw 2 a ?_
 refine K.one (ax.row 1 a) (fun qo=>?_)
 refine K.hv (a'.trans (a'.bz [1,12,0,2,3,4,5,6,7,8,9,10,11,13] a) (a'.lx (g.yL cN.k.fE bq (⟨e,2,Ev,bn.rising c2⟩:g.bn)))) ?_
 refine aD 1 ?_
 refine K.gw (bo:=Nat×hA×List cI) (fun (b,l4,iq)=>b≤c2.length∧bj.hI iq l4∧g.pD iq (e' cX e.id (⟨e,2,Ev,bn.rising c2⟩:g.bn))∧iq.length≤cd.length+b∧iq=(c2.take b).foldl (fun AT l5=>bj.add AT l5 e.id) cd) (fun (b,l4,iq)=>[(100,.b (b:Int))]) (fun (b,l4,iq)=>[hF 195 h.j l4]) (fun (b,l4,iq)=>c2.length-b) ⟨0,dc,cd⟩ [0,6,98,99] [12] [0,1,2,3,4,5,6,7,8,9,10,11] ⟨by omega,cN.Z,g.pD.put cN.j,by omega,rfl⟩ ⟨(hM E),trivial⟩ a a ?_
 rintro ⟨b,l4,iq⟩ ⟨ac,Fx,gk,hwn,hwf⟩
 refine aU ?_ ?_
 refine I 0 ?_
 intros
 obtain ⟨Uo,akw⟩:=c4 (f:=c2) (b:=b) E
 refine aD 2 ?_
 refine K.fD 7 Tryz.bE aN ?_
 refine P Z' ?_
 rintro _ _ ⟨rfl,ws94,hr95,rfl⟩
 refine aD 1 ?_
 exact K.ms ⟨b+1,ws94,bj.add iq Uo e.id⟩ [0,6,98,99] [0] [1,2,3,4,5,6,7,8,9,10,11,12] ⟨by omega,hr95,gk.add Rk,(by have au:=g.Tn (f:=iq) (i:=Uo) (k:=e.id);omega),g.UK (z:=fun AT l5=>bj.add AT l5 e.id) akw hwf⟩ kR ⟨(hM E),trivial⟩ a a
 refine aF ?_
 intros
 exact aO ⟨_,_,_,_,_,_,_,_,_,a,⟨cN.S,cN.av,cN.k.h5 (eM:=(⟨e,2,Ev,bn.rising c2⟩:g.bn)) bq rU.symm ⟨.inr a,abF,qo,bn.Gf c2⟩,Fx,gk,LG⟩,⟨⟨LD,LC⟩,.inr ⟨(ke.1 bO),_,_,c2,g_.done E,.inr ⟨fa Cs,a,a,a,g.UJ hwf E,(⟨e,2,Ev,bn.rising c2⟩:g.bn),a,a,a,a⟩⟩⟩,⟨g_.i',LH⟩,LG,a⟩
def aqQ(u jJ yf:Nat)(h:g.b3)(N:g.aO)(s:Nat)(id aE O am a1 bM:Int)(bf:h.bC)(aW:N.bC h)(ca:N.hb s)(aw:s≤9000):M prog 77 #[u,jJ,yf] [ai jJ [h.s] 29,ai yf [id,aE,O,am,a1,bM] 41] (xh h u (.slice none 0 0) (.slice none 0 0) [] []++mN h N) (fun m B=>xN h u (fun bs a_ aH r=>bs.bC h∧bs.hb (s+1)∧g.sp h N id aE O am a1 bM bs a_ aH r) m B):=by
 have:=ca.t
 have:=ca.i
 have:=ca.j
 refine M.aM func77 a ntmps77 a fun an=>?_
 refine P aq4 ?_
 refine I 0 ?_
 refine K.cond a (fun J=>?_) (fun J=>?_)
 have aA:(g.nJ h id aE O am a1 bM)=false:=c_ J
 refine aF ?_
 exact aO ⟨(⟨N.x,N.bS,N.aY,N.bb,N.d,N.bz,N.A,N.af,N.cX,N.dc,N.cd,N.y⟩:g.aO),_,_,([]:List aK),([]:List bk),1,⟨⟨aW.d,aW.bz,aW.A,aW.b,aW.e8,aW.nH,aW.hn,aW.fG,aW.i',aW.gQ,aW.m'⟩,⟨by have au:=ca.t;dsimp only;omega,by have au:=ca.i;dsimp only;omega,by have au:=ca.j;dsimp only;omega,by omega⟩,.inl ⟨aA,a,a,a,a⟩⟩,a,a⟩
 have aZ:(g.nJ h id aE O am a1 bM)=true:=c_ J
 refine P aq5 ?_
 rintro _ _ ⟨Ko,hsn6,hrl7,hmem8,rfl,rfl⟩
 refine I 0 ?_
 refine K.cond a (fun hN=>?_) (fun hN=>?_)
 refine P oN ?_
 refine aF ?_
 intros
 exact aO ⟨(⟨N.x,N.bS,N.aY,N.bb,N.d,Ko,N.A,N.af,N.cX,N.dc,N.cd,N.y⟩:g.aO),_,_,([]:List aK)++[(⟨2,N.x,h.al,id,0,0,0⟩:aK)],([]:List bk),0,⟨⟨aW.d,hsn6,aW.A,aW.b,aW.e8,aW.nH,aW.hn,aW.fG,aW.i',Re,aW.m'⟩,⟨by have au:=ca.t;dsimp only;omega,by have au:=ca.i;dsimp only;omega,by have au:=ca.j;dsimp only;omega,by omega⟩,.inr ⟨aZ,a,⟨a,a,a,a,a⟩,hmem8,.inl ⟨hN,a,a,a,a,a,a,a⟩⟩⟩,a,a⟩
 refine I 0 ?_
 refine K.fD 6 Tryz.bE aN ?_
 refine P (aib h N.d am bf aW.d) ?_
 refine P aq3 ?_
 refine I 0 ?_
 refine K.hW 8 Tryz.bE aN ?_
 refine P JB ?_
 refine P oN ?_
 refine aU ?_ ?_
 intro BH FW
 refine K.hW 8 Tryz.bE aN ?_
 refine P Gh ?_
 refine P (Gs h N.x N.bS N.aY N.bb (g.cY h N.d am) u BH (Value.slice none 0 0) (([]:List aK)++[(⟨1,N.x,h.al,id,g.iU N.x (g.cY h N.d am).aa am a1,am,(g.cY h N.d am).aa⟩:aK)]) ([]:List bk) (⟨id,am,aE,a1,bM,N.x,0⟩:T) (g.iU N.x (g.cY h N.d am).aa am a1)) ?_
 rintro _ _ ⟨Hm,F19,rfl,rfl⟩
 refine P (vK h N.x N.bS N.aY N.bb (g.cY h N.d am) u Hm F19 ((([]:List aK)++[(⟨1,N.x,h.al,id,g.iU N.x (g.cY h N.d am).aa am a1,am,(g.cY h N.d am).aa⟩:aK)])++[g.ek N.x h.al ((⟨id,am,aE,a1,bM,N.x,0⟩:T),(g.iU N.x (g.cY h N.d am).aa am a1))]) N.A N.af N.cX N.dc N.cd bf (aW.d.Zc am) aW.A aW.b aW.e8 LJ) ?_
 rintro _ _ ⟨aoC,q22,ps23,jm24,E25,es26,S27,rfl,hk28,hq30,hin31,hon32,hfull33,rfl⟩
 refine aF ?_
 exact aO ⟨(⟨N.x,N.bS,N.aY,N.bb,aoC,Ko,q22,ps23,jm24,N.dc,N.cd,N.y⟩:g.aO),_,_,es26,([]:List bk)++[g.eB h.al (g.cY h N.d am) ((⟨id,am,aE,a1,bM,N.x,0⟩:T),(g.iU N.x (g.cY h N.d am).aa am a1))],0,⟨⟨hk28,hsn6,hq30,hin31,hon32.e8 aW.e8,aW.nH,aW.hn,aW.fG,aW.i',Re,aW.m'⟩,⟨by have au:=ca.t;dsimp only;omega,by have au:=ca.i;dsimp only;omega,by have au:=ca.j;dsimp only;omega,by omega⟩,.inr ⟨aZ,a,⟨a,a,a,a,a⟩,hmem8,.inr ⟨hN,_,_,S27,.inl ⟨dp (c9 FW),a,a,a,a⟩,hon32,hfull33⟩⟩⟩,a,a⟩
 refine aD 1 ?_
 intro BH FW
 refine P (awg h N.x N.bS N.aY N.bb (g.cY h N.d am) u BH (Value.slice none 0 0) (([]:List aK)++[(⟨1,N.x,h.al,id,g.iU N.x (g.cY h N.d am).aa am a1,am,(g.cY h N.d am).aa⟩:aK)]) ([]:List bk) N.A id aE O am a1 bM bf aW.A (fun F au=>g.KA aW hN F (oS _ au)) aW.fG (by have au:=ca.t;omega) LJ LJ) ?_
 rintro _ _ ⟨aef,F36,es37,fs38,q39,rfl,OD,hline41,rfl⟩
 have IU:=hline41
 refine P (vK h N.x N.bS (N.aY+1) N.bb (g.cY h N.d am) u aef F36 es37 q39 N.af N.cX N.dc N.cd bf (aW.d.Zc am) OD aW.b (IU.e8 aW.e8 (g.KA aW hN)) LJ) ?_
 rintro _ _ ⟨aoG,q44,ps45,jm46,Ma,es48,S49,rfl,hk50,hq52,hin53,hon54,hfull55,rfl⟩
 refine aF ?_
 exact aO ⟨(⟨N.x,N.bS,(N.aY+1),N.bb,aoG,Ko,q44,ps45,jm46,N.dc,N.cd,N.y⟩:g.aO),_,_,es48,fs38,0,⟨⟨hk50,hsn6,hq52,hin53,hon54.e8 (IU.e8 aW.e8 (g.KA aW hN)),aW.nH,aW.hn,(by have au:=aW.fG;dsimp only;omega),aW.i',Re,aW.m'⟩,⟨by have au:=ca.t;dsimp only;omega,by have au:=ca.i;dsimp only;omega,by have au:=ca.j;dsimp only;omega,by omega⟩,.inr ⟨aZ,a,⟨a,a,a,a,a⟩,hmem8,.inr ⟨hN,_,_,S49,.inr ⟨ke.1 FW,a,IU⟩,hon54,hfull55⟩⟩⟩,a,a⟩
def aad(n:Nat)(H:hA)(e:List cI)(dI:bj.hI e H)(i k:Int)(ag:bj.dX e i=some k):M prog 94 #[n,i] [] [hF 195 n H] (fun m B=>m=.tuple #[k,.bool true]∧∃ gC,bj.hI (bj.c8 e i) gC∧B=[hF 195 n gC]):=by
 exact acZ
def aac(n:Nat)(H:hA)(e:List cI)(dI:bj.hI e H)(i:Int)(ag:bj.dX e i=none):M prog 94 #[n,i] [] [hF 195 n H] (fun m B=>m=.tuple #[.b 0,.bool false]∧∃ gC,bj.hI (bj.c8 e i) gC∧B=[hF 195 n gC]):=by
 exact acZ
def aqO(u jJ yf:Nat)(h:g.b3)(N:g.aO)(s:Nat)(fN aE O code aa aP aR:Int)(bf:h.bC)(aW:N.bC h)(ca:N.hb s)(aw:s≤9000):M prog 90 #[u,yf,jJ] [ai yf [fN,aE,O,code,aa,aP,aR] 43,ai jJ [h.s] 29,ai 1 (g.te.map vO) 348] (xh h u (.slice none 0 0) (.slice none 0 0) [] []++mN h N) (fun m B=>xN h u (fun bs a_ aH r=>bs.bC h∧bs.hb (s+1)∧g.wk h N fN aE O code aa aP aR bs a_ aH r) m B):=by
 have:=ca.t
 have:=ca.i
 have:=ca.j
 have:=bj.tl (f:=N.cd) (i:=fN)
 refine M.aM func90 a ntmps90 a fun an=>?_
 refine I 0 ?_
 refine K.hW 16 Tryz.bE aN ?_
 refine P auc ?_
 refine aD 0 ?_
 refine js (decide ((if g.mP fN aE O code aa aP aR=true then (0:Int) else 1)≠0)) (fun G=>?_) (fun G=>?_)
 exact ada
 have e_:=fa G
 refine aD 8 ?_
 refine js (decide (O≠h.al)) (fun aZ=>?_) (fun aZ=>?_)
 have iV:=dp aZ
 refine aD 3 ?_
 refine w.od 19 a aZ ?_
 refine aF ?_
 exact LX
 have iW:=fa aZ
 refine aD 3 ?_
 refine w.kK 19 a aZ ?_
 refine P XB ?_
 refine I 0 ?_
 refine K.cond a (fun dL=>?_) (fun dL=>?_)
 have h2:(g.mo h aE)=false:=c_ dL
 refine aF ?_
 exact LX
 have hN:(g.mo h aE)=true:=c_ dL
 refine I 0 ?_
 refine K.fD 14 Tryz.bE aN ?_
 refine P awd ?_
 rintro _ _ ⟨_,rfl,rfl,rfl⟩
 refine I 0 ?_
 refine K.cond a (fun qX=>?_) (fun qX=>?_)
 refine P oN ?_
 refine I 0 ?_
 intro BH
 refine js ((bj.dX N.cd fN).isSome) (fun sI=>?_) (fun sI=>?_)
 obtain ⟨mL,kX⟩:=uK.1 sI
 obtain ⟨k,bq,rfl⟩:=aW.b.ff kX
 refine K.ef (df [(0,6),(6,0),(7,5)]) [4] Tryz.bE aN a ?_
 refine P (aad h.j N.dc N.cd aW.b.Z fN k.e.id) ?_
 rintro _ _ ⟨rfl,ws18,hr19,rfl⟩
 refine aD 1 ?_
 refine K.hW 9 Tryz.bE aN ?_
 refine P AY ?_
 refine P oN ?_
 refine aD 1 ?_
 intro L9
 refine P (ZE h N.x N.bS N.aY N.bb N.d u L9 (Value.slice none 0 0) ((([]:List aK)++[(⟨8,N.x,h.al,aP,0,aE,aa⟩:aK)])++[(⟨7,N.x,h.al,fN,code,aE,if true=true then (1:Int) else 0⟩:aK)]) ([]:List bk) N.A N.af N.cX ws18 (bj.c8 N.cd fN) k fN aE O code aa aP aR bf aW.d aW.A (aW.b.AW hr19) aW.e8 bq hq hq) ?_
 rintro _ _ ⟨aoD,q24,ps25,jm26,ws27,wl28,Sw,F30,es31,fs32,rfl,hk33,hq34,hin35,hwl36,hhr37,rfl⟩
 refine aF ?_
 exact aO ⟨(⟨N.x,N.bS,N.aY,N.bb,aoD,N.bz,q24,ps25,jm26,ws27,wl28,(ab.fA N.y aE aa aP N.x).1⟩:g.aO),_,_,es31,fs32,0,⟨⟨hk33,aW.bz,hq34,hin35,hhr37.e8 aW.e8,aW.nH,aW.hn,aW.fG,aW.i',aW.gQ,aW.m'.fA⟩,⟨by have au:=ca.t;dsimp only;omega,by have au:=ca.i;dsimp only;omega,by have au:=ca.j;have dx:=hwl36;have fe:=bj.tl (f:=N.cd) (i:=fN);dsimp only;omega,by omega⟩,.inr ⟨zp,a,⟨a,a,a,a,a⟩,a,(([]:List aK)++[(⟨8,N.x,h.al,aP,0,aE,aa⟩:aK)])++[(⟨7,N.x,h.al,fN,code,aE,if true=true then (1:Int) else 0⟩:aK)],Lr,.inr ⟨k,kX,bq,hhr37⟩⟩⟩,a,a⟩
 have kX:bj.dX N.cd fN=none:=by simpa using sI
 refine K.ef (df [(0,6),(6,0),(7,5)]) [4] Tryz.bE aN a ?_
 refine P (aac h.j N.dc N.cd aW.b.Z fN) ?_
 rintro _ _ ⟨rfl,ws39,hr40,rfl⟩
 refine aD 1 ?_
 refine K.hW 9 Tryz.bE aN ?_
 refine P AY ?_
 refine P oN ?_
 refine aF ?_
 intros
 exact aO ⟨(⟨N.x,N.bS,N.aY,N.bb,N.d,N.bz,N.A,N.af,N.cX,ws39,bj.c8 N.cd fN,(ab.fA N.y aE aa aP N.x).1⟩:g.aO),_,_,(([]:List aK)++[(⟨8,N.x,h.al,aP,0,aE,aa⟩:aK)])++[(⟨7,N.x,h.al,fN,code,aE,if false=true then (1:Int) else 0⟩:aK)],([]:List bk),0,⟨⟨aW.d,aW.bz,aW.A,aW.b.AW hr40,aW.e8,aW.nH,aW.hn,aW.fG,aW.i',aW.gQ,aW.m'.fA⟩,⟨by have au:=ca.t;dsimp only;omega,by have au:=ca.i;dsimp only;omega,by have au:=ca.j;have fe:=bj.tl (f:=N.cd) (i:=fN);dsimp only;omega,by omega⟩,.inr ⟨zp,a,⟨a,a,a,a,a⟩,a,(([]:List aK)++[(⟨8,N.x,h.al,aP,0,aE,aa⟩:aK)])++[(⟨7,N.x,h.al,fN,code,aE,if false=true then (1:Int) else 0⟩:aK)],Lr,.inl ⟨kX,a,a,a,a,a,a,a⟩⟩⟩,a,a⟩
 refine I 0 ?_
 refine js ((bj.dX N.cd fN).isSome) (fun z6=>?_) (fun z6=>?_)
 obtain ⟨mL,kX⟩:=uK.1 z6
 obtain ⟨k,bq,rfl⟩:=aW.b.ff kX
 refine K.ef (df [(0,6),(6,0),(7,5)]) [4] Tryz.bE aN a ?_
 refine P (aad h.j N.dc N.cd aW.b.Z fN k.e.id) ?_
 rintro _ _ ⟨rfl,ws45,hr46,rfl⟩
 refine aD 1 ?_
 refine K.hW 9 Tryz.bE aN ?_
 refine P AY ?_
 refine P oN ?_
 refine aD 1 ?_
 intro Mb
 refine P (ZE h N.x N.bS N.aY N.bb N.d u Mb (Value.slice none 0 0) (([]:List aK)++[(⟨7,N.x,h.al,fN,code,aE,if true=true then (1:Int) else 0⟩:aK)]) ([]:List bk) N.A N.af N.cX ws45 (bj.c8 N.cd fN) k fN aE O code aa aP aR bf aW.d aW.A (aW.b.AW hr46) aW.e8 bq hq hq) ?_
 rintro _ _ ⟨aoI,q51,ps52,jm53,ws54,wl55,E56,F57,es58,fs59,rfl,hk60,hq61,hin62,hwl63,hhr64,rfl⟩
 refine aF ?_
 exact aO ⟨(⟨N.x,N.bS,N.aY,N.bb,aoI,N.bz,q51,ps52,jm53,ws54,wl55,(ab.fA N.y aE aa aP N.x).1⟩:g.aO),_,_,es58,fs59,0,⟨⟨hk60,aW.bz,hq61,hin62,hhr64.e8 aW.e8,aW.nH,aW.hn,aW.fG,aW.i',aW.gQ,aW.m'.fA⟩,⟨by have au:=ca.t;dsimp only;omega,by have au:=ca.i;dsimp only;omega,by have au:=ca.j;have dx:=hwl63;have fe:=bj.tl (f:=N.cd) (i:=fN);dsimp only;omega,by omega⟩,.inr ⟨zp,a,⟨a,a,a,a,a⟩,a,([]:List aK)++[(⟨7,N.x,h.al,fN,code,aE,if true=true then (1:Int) else 0⟩:aK)],Lr,.inr ⟨k,kX,bq,hhr64⟩⟩⟩,a,a⟩
 have kX:bj.dX N.cd fN=none:=by simpa using z6
 refine K.ef (df [(0,6),(6,0),(7,5)]) [4] Tryz.bE aN a ?_
 refine P (aac h.j N.dc N.cd aW.b.Z fN) ?_
 rintro _ _ ⟨rfl,ws66,hr67,rfl⟩
 refine aD 1 ?_
 refine K.hW 9 Tryz.bE aN ?_
 refine P AY ?_
 refine P oN ?_
 refine aF ?_
 intros
 exact aO ⟨(⟨N.x,N.bS,N.aY,N.bb,N.d,N.bz,N.A,N.af,N.cX,ws66,bj.c8 N.cd fN,(ab.fA N.y aE aa aP N.x).1⟩:g.aO),_,_,([]:List aK)++[(⟨7,N.x,h.al,fN,code,aE,if false=true then (1:Int) else 0⟩:aK)],([]:List bk),0,⟨⟨aW.d,aW.bz,aW.A,aW.b.AW hr67,aW.e8,aW.nH,aW.hn,aW.fG,aW.i',aW.gQ,aW.m'.fA⟩,⟨by have au:=ca.t;dsimp only;omega,by have au:=ca.i;dsimp only;omega,by have au:=ca.j;have fe:=bj.tl (f:=N.cd) (i:=fN);dsimp only;omega,by omega⟩,.inr ⟨zp,a,⟨a,a,a,a,a⟩,a,([]:List aK)++[(⟨7,N.x,h.al,fN,code,aE,if false=true then (1:Int) else 0⟩:aK)],Lr,.inl ⟨kX,a,a,a,a,a,a,a⟩⟩⟩,a,a⟩
def aqL(u jJ yf:Nat)(h:g.b3)(N:g.aO)(s:Nat)(O bS cb bJ bR b4 bY b_ cy:Int)(bf:h.bC)(aW:N.bC h)(ca:N.hb s)(aw:s≤9000):M prog 97 #[u,yf,jJ] [ai yf [O,bS,cb,bJ,bR,b4,bY,b_,cy] 47,ai jJ [h.s] 29,ai 0 (g.nl.map tj) 282] (xh h u (.slice none 0 0) (.slice none 0 0) [] []++mN h N) (fun m B=>xN h u (fun bs a_ aH r=>bs.bC h∧bs.hb (s+1)∧g.wh h N O bS [cb,bJ,bR,b4,bY,b_,cy] bs a_ aH r) m B):=by
 have:=ca.t
 have:=ca.i
 have:=ca.j
 refine M.aM func97 a ntmps97 a fun an=>?_
 refine I 0 ?_
 refine K.hW 12 Tryz.bE aN ?_
 refine P asF ?_
 refine aD 0 ?_
 refine js (decide ((if g.qw O [O,bS,cb,bJ,bR,b4,bY,b_,cy]=true then (0:Int) else 1)≠0)) (fun G=>?_) (fun G=>?_)
 exact ada
 have e_:=fa G
 refine aU ?_ ?_
 refine aF ?_
 intros
 exact LX
 refine I 0 ?_
 intros
 refine K.hW 13 Tryz.bE aN ?_
 refine P asG ?_
 refine aD 0 ?_
 refine js (decide (N.bS < bS)) (fun bT=>?_) (fun bT=>?_)
 have iW:=dp bT
 refine aD 6 ?_
 refine w.od 24 a bT ?_
 refine P ah' ?_
 refine aU ?_ ?_
 refine I 3 ?_
 intro kM
 refine K.hW 5 Tryz.bE aN ?_
 refine P AY ?_
 refine P oN ?_
 refine aF ?_
 intros
 exact aO ⟨(⟨N.x,bS,N.aY,N.bb,(if h7.e7 [cb,bJ,bR,b4,bY,b_,cy] h.ap=0 then g.yW N.d cb bJ bR b4 bY b_ cy else N.d),N.bz,N.A,N.af,N.cX,N.dc,N.cd,N.y⟩:g.aO),_,_,([]:List aK)++[(⟨10,N.x,h.al,bS,if (decide ((h7.e7 [cb,bJ,bR,b4,bY,b_,cy] h.ap)=0))=true then (1:Int) else 0,0,0⟩:aK)],([]:List bk),0,⟨⟨(g.dM.bC.X8 aW.d),aW.bz,aW.A,aW.b,aW.e8,aW.nH,aW.hn,aW.fG,aW.i',aW.gQ,aW.m'⟩,⟨by have au:=ca.t;dsimp only;omega,by have au:=ca.i;dsimp only;omega,by have au:=ca.j;dsimp only;omega,by omega⟩,.inr ⟨zp,a,⟨a,a,a,a,a,a,a,a,a⟩,true,mT,a,(ee kM),Rg,a⟩⟩,a,a⟩
 refine I 0 ?_
 intro kM
 refine K.hW 5 Tryz.bE aN ?_
 refine P AY ?_
 refine P oN ?_
 refine aF ?_
 intros
 exact aO ⟨(⟨N.x,N.bS,N.aY,N.bb,(if h7.e7 [cb,bJ,bR,b4,bY,b_,cy] h.ap=0 then g.yW N.d cb bJ bR b4 bY b_ cy else N.d),N.bz,N.A,N.af,N.cX,N.dc,N.cd,N.y⟩:g.aO),_,_,([]:List aK)++[(⟨10,N.x,h.al,bS,if (decide ((h7.e7 [cb,bJ,bR,b4,bY,b_,cy] h.ap)=0))=true then (1:Int) else 0,0,0⟩:aK)],([]:List bk),0,⟨⟨(g.dM.bC.X8 aW.d),aW.bz,aW.A,aW.b,aW.e8,aW.nH,aW.hn,aW.fG,aW.i',aW.gQ,aW.m'⟩,⟨by have au:=ca.t;dsimp only;omega,by have au:=ca.i;dsimp only;omega,by have au:=ca.j;dsimp only;omega,by omega⟩,.inr ⟨zp,a,⟨a,a,a,a,a,a,a,a,a⟩,false,mT,a,(be kM),Rg,a⟩⟩,a,a⟩
 have mQ:=fa bT
 refine aD 6 ?_
 refine w.kK 24 a bT ?_
 refine I 0 ?_
 refine K.hW 5 Tryz.bE aN ?_
 refine P AY ?_
 refine P oN ?_
 refine aF ?_
 intros
 exact aO ⟨(⟨N.x,N.bS,N.aY,N.bb,N.d,N.bz,N.A,N.af,N.cX,N.dc,N.cd,N.y⟩:g.aO),_,_,([]:List aK)++[(⟨10,N.x,h.al,bS,if false=true then (1:Int) else 0,0,0⟩:aK)],([]:List bk),0,⟨⟨aW.d,aW.bz,aW.A,aW.b,aW.e8,aW.nH,aW.hn,aW.fG,aW.i',aW.gQ,aW.m'⟩,⟨by have au:=ca.t;dsimp only;omega,by have au:=ca.i;dsimp only;omega,by have au:=ca.j;dsimp only;omega,by omega⟩,.inr ⟨zp,a,⟨a,a,a,a,a,a,a,a,a⟩,false,mT,a,a,Rg,a⟩⟩,a,a⟩
def aq0(bg:Int)(h:g.b3)(x bS aY bb:Int)(d:g.dM)(u:Nat)(dS dK:Value)(dn:List aK)(eT:List bk)(af:g.fh)(cX:List (Int×g.bn))(dc:hA)(cd:List cI)(e:T)(jd:Value)(sS:Value.oneCell' jd=true)(bf:h.bC)(cN:g.gp h af cX cd dc)(Q:e∈g.c5 af)(aC:dn.length≤99990)(bc:eT.length≤99990)(ad:bg=1):M prog 89 #[h.s,u,.agg #[e.id,e.am,e.cg,e.ck,e.eN,e.dm,e.seq,bg,jd]] [ai h.s (g.io h x bS aY bb) 90,iH h d] [ai u [h.s,dS,dK] 261,row dS 51 7 (dn.map aK.cells),row dK 62 23 (eT.map bk.cells),gQ h af,cw h.hC g.li cX,c1 (g.h4 3 cX),hF 195 h.j dc] (fun m B=>∃ ha ij c' kb,m=.tuple #[]∧(g.c5 af).Perm (e :: g.c5 c')∧g.xP h.b1.toNat af c' e∧g.gp h c' (e3 cX e.id) (bj.drop cd e.id) kb∧B=[ai u [h.s,ha,ij] 261,row ha 51 7 ((dn++[g.ek x h.al (e,10)]).map aK.cells),row ij 62 23 ((eT++[g.eB h.al d (e,10)]).map bk.cells),gQ h c',cw h.hC g.li (e3 cX e.id),c1 (g.h4 3 (e3 cX e.id)),hF 195 h.j kb]):=by
 subst ad;exact aqZ h x bS aY bb d u dS dK dn eT af cX dc cd e jd sS bf cN Q aC bc
def aqX(u jJ EP rJ:Nat)(h:g.b3)(N:g.aO)(s:Nat)(id:Int)(bf:h.bC)(aW:N.bC h)(ca:N.hb s)(aw:s≤9000):M prog 189 #[u,jJ,EP,rJ] [ai jJ [h.s] 29,ai EP [id] 3,ai rJ [.func (.func 89) #[h.s] #[]] 148] (xh h u (.slice none 0 0) (.slice none 0 0) [] []++mN h N) (fun m B=>xN h u (fun bs a_ aH r=>bs.bC h∧bs.hb (s+1)∧g.uR h N id bs a_ aH r) m B):=by
 have:=ca.t
 have:=ca.i
 have:=ca.j
 refine M.aM func189 a ntmps189 a fun an=>?_
 refine I 0 ?_
 refine js ((cx N.cX id).isSome) (fun G=>?_) (fun G=>?_)
 obtain ⟨k,ag⟩:=uK.1 G
 have rU:=(aW.b.k.ff _ _ ag).2.1
 have V3:cx N.cX k.e.id=some k:=by rw [rU];exact ag
 refine K.ef (df [(0,9),(9,0),(10,0),(11,1)]) [3,7] Tryz.bE aN a ?_
 refine aD 3 ?_
 refine aL.A a (aV.s0 (X:=k) (A:=true) jZ e2 j2 a a (hS.fy 1 h.hC a a) tu tu) a<|aL.Z 3 a ?_
 refine aL.f a (aq.iS j2 a) a ?_
 rintro _ _ ⟨cS,rfl,rfl⟩
 refine gr.kV [4,8] [0,1] a a ?_
 refine aL.cq a (aq.dC 0 j3 a a a a a LP a) ?_
 rintro _ _ rfl
 refine gr.iS [4,8] a aN<|aL.Z 1 a<|aL.nil ?_
 refine aU ?_ ?_
 exact adf
 refine I 2 ?_
 intro e_
 refine w.f (aq.MP call89 a a (aq0 k.bg h N.x N.bS N.aY N.bb N.d u (Value.slice none 0 0) (Value.slice none 0 0) ([]:List aK) ([]:List bk) N.af N.cX N.dc N.cd k.e k.m (aW.b.k.one ag) bf aW.b (aW.b.k.ff _ _ ag).1 DT DT (ke.1 e_)) [1,2,3,7,8,9,10] a (.fy 4 a a (.fy 5 a a .nil))) a ?_
 rintro _ _ ⟨_,⟨xJ,F5,ps6,ws7,rfl,hp8,hta10,hin9,rfl⟩,rfl⟩
 refine P (vK h N.x N.bS N.aY N.bb N.d u xJ F5 (([]:List aK)++[g.ek N.x h.al (k.e,10)]) N.A ps6 (e3 N.cX k.e.id) ws7 (bj.drop N.cd k.e.id) bf aW.d aW.A hin9 (g.AL aW.e8 hp8) DT) ?_
 rintro _ _ ⟨aoA,PO,yU,jm15,L8,es17,S18,rfl,hk19,hq21,hin22,hon23,hfull24,rfl⟩
 refine aF ?_
 exact aO ⟨(⟨N.x,N.bS,N.aY,N.bb,aoA,N.bz,PO,yU,jm15,ws7,(bj.drop N.cd k.e.id),N.y⟩:g.aO),_,_,es17,([]:List bk)++[g.eB h.al N.d (k.e,10)],0,⟨⟨hk19,aW.bz,hq21,hin22,hon23.e8 (g.AL aW.e8 hp8),aW.nH,aW.hn,aW.fG,aW.i',aW.gQ,aW.m'⟩,⟨by have au:=ca.t;dsimp only;omega,by have au:=ca.i;dsimp only;omega,by have au:=ca.j;have fe:=bj.rF (f:=N.cd) (k:=k.e.id);dsimp only;omega,by omega⟩,.inr ⟨k,ag,.inr ⟨(ke.1 e_),a,⟨a,a,a,a,a,a⟩,_,_,_,S18,⟨hta10,hp8,a,a,a,a⟩,hon23,hfull24⟩⟩⟩,a,a⟩
 have ag:cx N.cX id=none:=by simpa using G
 refine K.ef (df [(0,9),(9,0),(10,0),(11,1)]) [3,7] Tryz.bE aN a ?_
 refine aD 3 ?_
 refine aL.A a (aV.s0 (X:=.agg #[.b 0,.b 0,.b 0,.b 0,.b 0,.b 0,.b 0,.b 0,Value.slice none 0 0]) (A:=false) jZ e2 j2 a a (hS.fy 1 h.hC a a) tu tu) a ?_
 refine aF ?_
 intro ajp
 exact adh
def aq2(bg:Int)(h:g.b3)(x bS aY bb:Int)(d:g.dM)(u:Nat)(dS dK:Value)(dn:List aK)(eT:List bk)(af:g.fh)(cX:List (Int×g.bn))(dc:hA)(cd:List cI)(y:ab.ht)(e:T)(jd:Value)(k:g.bn)(sS:Value.oneCell' jd=true)(bf:h.bC)(cN:g.gp h af cX cd dc)(Q:e∈g.c5 af)(bq:cx cX e.id=some k)(rU:k.e=e)(E':0≤bb)(wO:bb≤90000)(AJ:cd.length≤90000)(aC:dn.length≤90000)(bc:eT.length≤90000)(ad:bg=1):M prog 88 #[h.s,u,.agg #[e.id,e.am,e.cg,e.ck,e.eN,e.dm,e.seq,bg,jd]] [iH h d,ai h.k2 (ab.iC h.bD y) 215,bF h.dA 4 (h.bb.map cG.cells)] [ai u [h.s,dS,dK] 261,row dS 51 7 (dn.map aK.cells),row dK 62 23 (eT.map bk.cells),ai h.s (g.io h x bS aY bb) 90,gQ h af,cw h.hC g.li cX,c1 (g.h4 3 cX),hF 195 h.j dc] (fun m B=>∃ ha ij c' lW kb hE o7 qV fk,m=.tuple #[]∧g.gp h c' lW hE kb∧g.zv h x d y e af c' cX lW cd hE bb fk dn o7 eT qV∧(bb≤fk∧fk≤bb+6)∧hE.length≤cd.length+6∧B=[ai u [h.s,ha,ij] 261,row ha 51 7 (o7.map aK.cells),row ij 62 23 (qV.map bk.cells),ai h.s (g.io h x bS aY fk) 90,gQ h c',cw h.hC g.li lW,c1 (g.h4 3 lW),hF 195 h.j kb]):=by
 subst ad;exact aq1 h x bS aY bb d u dS dK dn eT af cX dc cd y e jd k sS bf cN Q bq rU E' wO AJ aC bc
def aqY(u jJ EP rJ:Nat)(h:g.b3)(N:g.aO)(s:Nat)(id:Int)(bf:h.bC)(aW:N.bC h)(ca:N.hb s)(aw:s≤9000):M prog 189 #[u,jJ,EP,rJ] [ai jJ [h.s] 29,ai EP [id] 3,ai rJ [.func (.func 88) #[h.s] #[]] 148] (xh h u (.slice none 0 0) (.slice none 0 0) [] []++mN h N) (fun m B=>xN h u (fun bs a_ aH r=>bs.bC h∧bs.hb (s+1)∧g.tA h N id bs a_ aH r) m B):=by
 have:=ca.t
 have:=ca.i
 have:=ca.j
 refine M.aM func189 a ntmps189 a fun an=>?_
 refine I 0 ?_
 refine js ((cx N.cX id).isSome) (fun G=>?_) (fun G=>?_)
 obtain ⟨k,ag⟩:=uK.1 G
 have rU:=(aW.b.k.ff _ _ ag).2.1
 have V3:cx N.cX k.e.id=some k:=by rw [rU];exact ag
 refine K.ef (df [(0,9),(9,0),(10,0),(11,1)]) [3,7] Tryz.bE aN a ?_
 refine aD 3 ?_
 refine aL.A a (aV.s0 (X:=k) (A:=true) jZ e2 j2 a a (hS.fy 1 h.hC a a) tu tu) a<|aL.Z 3 a ?_
 refine aL.f a (aq.iS j2 a) a ?_
 rintro _ _ ⟨cS,rfl,rfl⟩
 refine gr.kV [4,8] [0,1] a a ?_
 refine aL.cq a (aq.dC 0 j3 a a a a a LP a) ?_
 rintro _ _ rfl
 refine gr.iS [4,8] a aN<|aL.Z 1 a<|aL.nil ?_
 refine aU ?_ ?_
 exact adf
 refine I 2 ?_
 intro e_
 refine w.f (aq.MP call88 a a (aq2 k.bg h N.x N.bS N.aY N.bb N.d u (Value.slice none 0 0) (Value.slice none 0 0) ([]:List aK) ([]:List bk) N.af N.cX N.dc N.cd N.y k.e k.m k (aW.b.k.one ag) bf aW.b (aW.b.k.ff _ _ ag).1 V3 a aW.i' (by have au:=ca.i;omega) (by have au:=ca.j;omega) DT DT (ke.1 e_)) [1,2,3,4,7,8,9,10] a (.fy 5 a a (.fy 12 a a (.eo 13 jz a a .nil)))) a ?_
 rintro _ _ ⟨_,⟨xJ,F5,ps6,jm7,ws8,wl9,es10,fs11,TN,rfl,hin13,hca14,hcb15,hwl16,rfl⟩,rfl⟩
 have N4:=hca14
 refine P (vK h N.x N.bS N.aY TN N.d u xJ F5 es10 N.A ps6 jm7 ws8 wl9 bf aW.d aW.A hin13 (hca14.e8 aW.e8) DT) ?_
 rintro _ _ ⟨aoB,q19,ps20,jm21,L_,es23,S24,rfl,hk25,hq27,hin28,hon29,hfull30,rfl⟩
 refine aF ?_
 exact aO ⟨(⟨N.x,N.bS,N.aY,TN,aoB,N.bz,q19,ps20,jm21,ws8,wl9,N.y⟩:g.aO),_,_,es23,fs11,0,⟨⟨hk25,aW.bz,hq27,hin28,hon29.e8 (hca14.e8 aW.e8),aW.nH,aW.hn,aW.fG,(by have au:=hcb15;have dx:=aW.i';dsimp only;omega),aW.gQ,aW.m'⟩,⟨by have au:=ca.t;dsimp only;omega,by have au:=ca.i;have fe:=hcb15;dsimp only;omega,by have au:=ca.j;have fe:=hwl16;dsimp only;omega,by omega⟩,.inr ⟨k,ag,.inr ⟨(ke.1 e_),a,⟨a,a,a,a,a⟩,_,_,_,S24,hca14,hon29,hfull30⟩⟩⟩,a,a⟩
 have ag:cx N.cX id=none:=by simpa using G
 refine K.ef (df [(0,9),(9,0),(10,0),(11,1)]) [3,7] Tryz.bE aN a ?_
 refine aD 3 ?_
 refine aL.A a (aV.s0 (X:=.agg #[.b 0,.b 0,.b 0,.b 0,.b 0,.b 0,.b 0,.b 0,Value.slice none 0 0]) (A:=false) jZ e2 j2 a a (hS.fy 1 h.hC a a) tu tu) a ?_
 refine aF ?_
 intro ayE
 exact adh
end Go.Proofs.YtohjlkjhpibkmaaGreatDoor
